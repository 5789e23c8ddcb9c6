import PyProof.Rows.All
import Wide.All
import OpenK.AllK
import Wide.FinOn
import HandS.ForMost
import HandS.Exc
import HandS.ExcOwn
import HandS.WordsExc
import HandS.Wide
import HandS.TupAny
import HandS.IsInst
import HandS.Lambda
import HandS.ExcCtx
import KE.KRevSl
import PyProof.LongRange
import HandS.HotCalls
import KE.GoesZip
import HandS.Iter
import HandS.ExcIs
import HandS.Codes
import HandS.CallLocal
import HandS.Head0
import HandS.Head1
import HandS.Head2
import HandS.HeadEnd
import HandS.HeadHook1
import HandS.HeadHook2
import HandS.HeadHook3
import HandS.HeadHook4
import HandS.HeadWalk
import HandS.EndTab
import HandS.Defaults
import PySem.Challenge.RW_foldedstrip_k02_whole_creases_at_all_pla
set_option Elab.async false
set_option linter.all false
set_option maxRecDepth 100000
set_option maxHeartbeats 4000000
set_option autoImplicit false
/-! The D layer: data without a heap, over the hand layer. Values are data; lists that change stand in a small store by their address. -/
namespace FD
open PySem PySem.Spec PyProof.Rows L2

/-- data: scr is the law's script; obj v is a value that is not looked into (a def, a class, the address of a list that changes) -/
inductive D where
  | non | bl (b : Bool) | int (i : Int) | str (x : Str) | tup (ds : List D) | lst (ds : List D) | scr (ns : List Int) | obj (v : V)

mutual
inductive Rep (K : PySem.W.Frag) (H : Hp) : V → D → Prop
  | non : Rep K H .non .non
  | bl (b : Bool) : Rep K H (.bl b) (.bl b)
  | int (i : Int) : Rep K H (.int i) (.int i)
  | str (x : Str) : Rep K H (.str x) (.str x)
  | tup {a : Addr} {xs : List V} {ds : List D} : SqT K H a xs → RepAll K H xs ds → Rep K H (.ref a) (.tup ds)
  | lst {a : Addr} {xs : List V} {ds : List D} : H a = some (.lst xs) → RepAll K H xs ds → Rep K H (.ref a) (.lst ds)
  | scr {a : Addr} {ns : List Int} : SqL K H a (ns.map V.int) → Rep K H (.ref a) (.scr ns)
  | obj (v : V) : Rep K H v (.obj v)
inductive RepAll (K : PySem.W.Frag) (H : Hp) : List V → List D → Prop
  | nil : RepAll K H [] []
  | cons {v : V} {vs : List V} {d : D} {ds : List D} : Rep K H v d → RepAll K H vs ds → RepAll K H (v :: vs) (d :: ds)
end

/-- all that is tracked, but the tables of code objects, is still there -/
def Ext (H H' : Hp) : Prop := ∀ a o, H a = some o → (∀ ps, o ≠ .tbl ps) → H' a = some o
theorem Ext.refl (H : Hp) : Ext H H := fun _ _ h _ => h
theorem Ext.trans {H H1 H2 : Hp} (a : Ext H H1) (b : Ext H1 H2) : Ext H H2 := fun c o h n => b c o (a c o h n) n

section
variable {K : PySem.W.Frag} {H H' : Hp}
theorem Ext.rdL (e : Ext H H') {a : Addr} {xs : List V} (h : SqL K H a xs) : SqL K H' a xs := by
  rcases h with (h | ⟨o, h⟩) | h
  · exact .inl (.inl (e _ _ h (fun ps z => by cases z)))
  · exact .inl (.inr ⟨o, e _ _ h (fun ps z => by cases z)⟩)
  · exact .inr h
theorem Ext.rdT (e : Ext H H') {a : Addr} {xs : List V} (h : SqT K H a xs) : SqT K H' a xs := by
  rcases h with (h | ⟨o, h⟩) | h
  · exact .inl (.inl (e _ _ h (fun ps z => by cases z)))
  · exact .inl (.inr ⟨o, e _ _ h (fun ps z => by cases z)⟩)
  · exact .inr h
mutual
theorem Rep.mono (e : Ext H H') : ∀ (d : D) (v : V), Rep K H v d → Rep K H' v d
  | .non, _, h => by cases h; exact .non
  | .bl _, _, h => by cases h; exact .bl _
  | .int _, _, h => by cases h; exact .int _
  | .str _, _, h => by cases h; exact .str _
  | .tup ds, _, h => by
    cases h with
    | tup hs ha => exact .tup (e.rdT hs) (RepAll.mono e ds _ ha)
  | .lst ds, _, h => by
    cases h with
    | lst hs ha => exact .lst (e _ _ hs (fun ps z => by cases z)) (RepAll.mono e ds _ ha)
  | .scr ns, _, h => by
    cases h with
    | scr hs => exact .scr (e.rdL hs)
  | .obj _, _, h => by cases h; exact .obj _
theorem RepAll.mono (e : Ext H H') : ∀ (ds : List D) (vs : List V), RepAll K H vs ds → RepAll K H' vs ds
  | [], _, h => by cases h; exact .nil
  | d :: ds, _, h => by
    cases h with
    | cons h1 h2 => exact .cons (Rep.mono e d _ h1) (RepAll.mono e ds _ h2)
end
theorem RepAll.length : ∀ {vs : List V} {ds : List D}, RepAll K H vs ds → vs.length = ds.length
  | _, _, .nil => rfl
  | _, _, .cons _ t => by rw [List.length_cons, List.length_cons, RepAll.length t]
theorem RepAll.get : ∀ {vs : List V} {ds : List D} {i : Nat} {d : D}, RepAll K H vs ds → ds[i]? = some d → ∃ v, vs[i]? = some v ∧ Rep K H v d
  | _, _, _, _, .nil, e => by simp at e
  | _, _, 0, _, .cons r _, e => by simp at e; subst e; exact ⟨_, rfl, r⟩
  | _, _, i + 1, d, .cons _ t, e => by
    obtain ⟨v, h1, h2⟩ := RepAll.get (i := i) (d := d) t (by simpa using e)
    exact ⟨v, by simpa using h1, h2⟩
theorem RepAll.getV : ∀ {vs : List V} {ds : List D} {i : Nat} {v : V}, RepAll K H vs ds → vs[i]? = some v → ∃ d, ds[i]? = some d ∧ Rep K H v d
  | _, _, _, _, .nil, e => by simp at e
  | _, _, 0, _, .cons r _, e => by simp at e; subst e; exact ⟨_, rfl, r⟩
  | _, _, i + 1, v, .cons _ t, e => by
    obtain ⟨d, h1, h2⟩ := RepAll.getV (i := i) (v := v) t (by simpa using e)
    exact ⟨d, by simpa using h1, h2⟩
theorem RepAll.append : ∀ {vs ws : List V} {ds es : List D}, RepAll K H vs ds → RepAll K H ws es → RepAll K H (vs ++ ws) (ds ++ es)
  | _, _, _, _, .nil, s => s
  | _, _, _, _, .cons r t, s => .cons r (RepAll.append t s)
theorem RepAll.take : ∀ {vs : List V} {ds : List D} (n : Nat), RepAll K H vs ds → RepAll K H (vs.take n) (ds.take n)
  | _, _, 0, _ => .nil
  | _, _, _ + 1, .nil => .nil
  | _, _, n + 1, .cons r t => .cons r (RepAll.take n t)
theorem RepAll.drop : ∀ {vs : List V} {ds : List D} (n : Nat), RepAll K H vs ds → RepAll K H (vs.drop n) (ds.drop n)
  | _, _, 0, r => r
  | _, _, _ + 1, .nil => .nil
  | _, _, n + 1, .cons _ t => RepAll.drop n t
theorem RepAll.set {v : V} {d : D} (r : Rep K H v d) : ∀ {vs : List V} {ds : List D} (i : Nat), RepAll K H vs ds → RepAll K H (vs.set i v) (ds.set i d)
  | _, _, _, .nil => .nil
  | _, _, 0, .cons _ t => .cons r t
  | _, _, i + 1, .cons q t => .cons q (RepAll.set r i t)
theorem RepAll.reverse : ∀ {vs : List V} {ds : List D}, RepAll K H vs ds → RepAll K H vs.reverse ds.reverse
  | _, _, .nil => .nil
  | _, _, .cons r t => by
    rw [List.reverse_cons, List.reverse_cons]
    exact RepAll.append (RepAll.reverse t) (.cons r .nil)
end

/-! ### the store -/
inductive MO where
  /-- a list of data -/
  | lst (ds : List D)
  /-- any object as it is tracked -/
  | raw (o : HO)
abbrev Store := Addr → Option MO
def put (G : Store) (a : Addr) (m : MO) : Store := fun b => if b = a then some m else G b
def era (G : Store) (a : Addr) : Store := fun b => if b = a then none else G b
theorem put_same {G : Store} {a : Addr} {m : MO} : put G a m a = some m := if_pos rfl
theorem put_ne {G : Store} {a b : Addr} {m : MO} (h : b ≠ a) : put G a m b = G b := if_neg h
theorem put_put {G : Store} {a : Addr} {m n : MO} : put (put G a m) a n = put G a n := by
  funext b; unfold put; split <;> rfl
theorem put_era {G : Store} {a : Addr} {m : MO} (h : G a = none) : era (put G a m) a = G := by
  funext b
  unfold era put
  by_cases e : b = a
  · rw [if_pos e, e, h]
  · rw [if_neg e, if_neg e]
theorem put_id {G : Store} {a : Addr} {m : MO} (h : G a = some m) : put G a m = G := by
  funext b
  unfold put
  by_cases e : b = a
  · rw [if_pos e, e, h]
  · rw [if_neg e]
/-- what is out of sight: neither data nor in the store (a list that a comprehension fills) -/
abbrev Hid := Addr → Bool
/-- the heap without what stands in the store or is out of sight -/
def hide (M : Hid) (G : Store) (H : Hp) : Hp := fun a => match M a, G a with
  | false, none => H a
  | _, _ => none
theorem hide_none {M : Hid} {G : Store} {H : Hp} {a : Addr} (m : M a = false) (h : G a = none) : hide M G H a = H a := by unfold hide; rw [h, m]
theorem hide_sub {M : Hid} {G : Store} {H : Hp} {a : Addr} {o : HO} (h : hide M G H a = some o) : H a = some o ∧ G a = none ∧ M a = false := by
  cases m : M a with
  | true => unfold hide at h; rw [m] at h; cases h
  | false =>
    cases e : G a with
    | none => rw [hide_none m e] at h; exact ⟨h, rfl, rfl⟩
    | some x => unfold hide at h; rw [m, e] at h; cases h
theorem hide_ext (M : Hid) (G : Store) (H : Hp) : Ext (hide M G H) H := fun _ _ h _ => (hide_sub h).1

/-- what an object in the store is -/
def MRep (K : PySem.W.Frag) (Hh : Hp) : MO → HO → Prop
  | .lst ds, .lst vs => RepAll K Hh vs ds
  | _, _ => False
theorem MRep.mono {K : PySem.W.Frag} {H H' : Hp} (e : Ext H H') {m : MO} {o : HO} (h : MRep K H m o) : MRep K H' m o := by
  cases m with
  | raw u => exact False.elim h
  | lst ds =>
    cases o with
    | lst vs => exact RepAll.mono e ds vs h
    | _ => exact False.elim h
/-- what is known of the code tables -/
abbrev Tb := List (Addr × Str)
structure SRel (K : PySem.W.Frag) (T : Tb) (M : Hid) (G : Store) (H : Hp) : Prop where
  sto : ∀ a m, G a = some m → ∃ o, H a = some o ∧ MRep K (hide M G H) m o
  tab : LamX.Tabs T (hide M G H)
  hid : ∀ a, M a = true → (∃ xs, H a = some (.lst xs)) ∧ G a = none
abbrev DEnv := List (Option D)
structure ERel (K : PySem.W.Frag) (H : Hp) (ρ : DEnv) (σ : L2.St) : Prop where
  len : ρ.length = σ.length
  at_ : ∀ (i : Nat) (d : D), ρ[i]? = some (some d) → ∃ v, σ[i]? = some (some v) ∧ Rep K H v d
section
variable {K : PySem.W.Frag} {T : Tb} {M : Hid} {G G' : Store} {H H' : Hp} {ρ : DEnv} {σ : L2.St}
theorem ERel.mono (e : Ext H H') (h : ERel K H ρ σ) : ERel K H' ρ σ := ⟨h.len, fun i d q => by
  obtain ⟨v, h1, h2⟩ := h.at_ i d q
  exact ⟨v, h1, h2.mono e⟩⟩
theorem ERel.set {i : Nat} {d : D} {v : V} (h : ERel K H ρ σ) (r : Rep K H v d) : ERel K H (ρ.set i (some d)) (σ.set i (some v)) := by
  refine ⟨by rw [List.length_set, List.length_set, h.len], fun j d' q => ?_⟩
  by_cases e : j = i
  · subst e
    have hl : j < ρ.length := by
      have := (List.getElem?_eq_some_iff.mp q).1
      rwa [List.length_set] at this
    rw [List.getElem?_set_self hl] at q
    cases q
    exact ⟨v, by rw [List.getElem?_set_self (by rw [← h.len]; exact hl)], r⟩
  · rw [List.getElem?_set_ne (Ne.symm e)] at q
    obtain ⟨v', h1, h2⟩ := h.at_ j d' q
    exact ⟨v', by rw [List.getElem?_set_ne (Ne.symm e)]; exact h1, h2⟩
/-- everything that is tracked stays -/
def ExtF (H H' : Hp) : Prop := ∀ a o, H a = some o → H' a = some o
theorem ExtF.ext (e : ExtF H H') : Ext H H' := fun a o h _ => e a o h
/-- a new object beside -/
theorem hide_new {p : Addr} {o : HO} (n : H p = none) : ExtF (hide M G H) (hide M G (upd H p o)) := fun a u e => by
  obtain ⟨h1, h2, h3⟩ := hide_sub e
  rw [hide_none h3 h2, upd_ne (ne_of_none h1 n)]
  exact h1
theorem SRel.none_of (S : SRel K T M G H) {p : Addr} (n : H p = none) : G p = none := by
  cases e : G p with
  | none => rfl
  | some m =>
    obtain ⟨o, h1, _⟩ := S.sto p m e
    rw [n] at h1; cases h1
theorem SRel.seen (S : SRel K T M G H) {p : Addr} (n : H p = none) : M p = false := by
  cases e : M p with
  | false => rfl
  | true =>
    obtain ⟨xs, hx⟩ := (S.hid p e).1
    rw [n] at hx; cases hx
theorem SRel.keep (S : SRel K T M G H) {p : Addr} {o : HO} (h : M p = false) : ∀ a, M a = true → upd H p o a = H a := fun a m => upd_ne (fun e => by rw [e, h] at m; cases m)
theorem SRel.new (S : SRel K T M G H) {p : Addr} {o : HO} (n : H p = none) : SRel K T M G (upd H p o) := by
  refine ⟨fun a m e => ?_, S.tab.ext (hide_new n), fun a m => ?_⟩
  · obtain ⟨u, h1, h2⟩ := S.sto a m e
    exact ⟨u, by rw [upd_ne (ne_of_none h1 n)]; exact h1, h2.mono (hide_new n).ext⟩
  · rw [S.keep (S.seen n) a m]; exact S.hid a m
theorem hide_newAt {p : Addr} {o : HO} (S : SRel K T M G H) (n : H p = none) : hide M G (upd H p o) p = some o := by
  rw [hide_none (S.seen n) (S.none_of n), upd_same]
/-- a new object that goes into the store -/
theorem hide_putNew {p : Addr} {o : HO} {m : MO} (n : H p = none) : ExtF (hide M G H) (hide M (put G p m) (upd H p o)) := fun a u e => by
  obtain ⟨h1, h2, h3⟩ := hide_sub e
  have ne := ne_of_none h1 n
  rw [hide_none h3 (by rw [put_ne ne]; exact h2), upd_ne ne]
  exact h1
theorem SRel.putNew (S : SRel K T M G H) {p : Addr} {o : HO} {m : MO} (n : H p = none) (r : MRep K (hide M G H) m o) : SRel K T M (put G p m) (upd H p o) := by
  have x : ExtF (hide M G H) (hide M (put G p m) (upd H p o)) := hide_putNew n
  refine ⟨fun a m' e => ?_, S.tab.ext x, fun a q => ?_⟩
  · by_cases h : a = p
    · subst h
      rw [put_same] at e
      cases e
      exact ⟨o, upd_same, r.mono x.ext⟩
    · rw [put_ne h] at e
      obtain ⟨u, h1, h2⟩ := S.sto a m' e
      exact ⟨u, by rw [upd_ne h]; exact h1, h2.mono x.ext⟩
  · have ne : a ≠ p := fun e => by rw [e, S.seen n] at q; cases q
    rw [upd_ne ne, put_ne ne]; exact S.hid a q
/-- an object of the store is written -/
theorem hide_put {p : Addr} {o : HO} {m m0 : MO} (h : G p = some m0) : hide M (put G p m) (upd H p o) = hide M G H := by
  funext a
  unfold hide
  by_cases e : a = p
  · subst e
    rw [put_same, h]
    cases M a <;> rfl
  · rw [put_ne e, upd_ne e]
theorem SRel.unhid (S : SRel K T M G H) {p : Addr} {m0 : MO} (h : G p = some m0) : M p = false := by
  cases e : M p with
  | false => rfl
  | true => rw [(S.hid p e).2] at h; cases h
theorem SRel.wr (S : SRel K T M G H) {p : Addr} {o : HO} {m m0 : MO} (h : G p = some m0) (r : MRep K (hide M G H) m o) : SRel K T M (put G p m) (upd H p o) := by
  refine ⟨fun a m' e => ?_, by rw [hide_put h]; exact S.tab, fun a q => ?_⟩
  · rw [hide_put h]
    by_cases q : a = p
    · subst q
      rw [put_same] at e
      cases e
      exact ⟨o, upd_same, r⟩
    · rw [put_ne q] at e
      obtain ⟨u, h1, h2⟩ := S.sto a m' e
      exact ⟨u, by rw [upd_ne q]; exact h1, h2⟩
  · have ne : a ≠ p := fun e => by rw [e, S.unhid h] at q; cases q
    rw [upd_ne ne, put_ne ne]; exact S.hid a q
/-- a list leaves the store: from now on it is data -/
theorem hide_era {p : Addr} : ExtF (hide M G H) (hide M (era G p) H) := fun a u e => by
  obtain ⟨h1, h2, h3⟩ := hide_sub e
  have q : FD.era G p a = none := by
    unfold FD.era
    split
    · rfl
    · exact h2
  rw [hide_none h3 q]
  exact h1
theorem SRel.eraS (S : SRel K T M G H) {p : Addr} : SRel K T M (era G p) H := by
  refine ⟨fun a m e => ?_, S.tab.ext hide_era, fun a m => ⟨(S.hid a m).1, ?_⟩⟩
  · have q : G a = some m := by
      unfold FD.era at e
      split at e
      · cases e
      · exact e
    obtain ⟨u, h1, h2⟩ := S.sto a m q
    exact ⟨u, h1, h2.mono hide_era.ext⟩
  · unfold FD.era
    split
    · rfl
    · exact (S.hid a m).2
theorem SRel.freeze (S : SRel K T M G H) {p : Addr} {ds : List D} (h : G p = some (.lst ds)) : Rep K (hide M (FD.era G p) H) (.ref p) (.lst ds) := by
  obtain ⟨u, h1, h2⟩ := S.sto p _ h
  cases u with
  | lst vs =>
    have q : FD.era G p p = none := if_pos rfl
    exact .lst (by rw [hide_none (S.unhid h) q]; exact h1) (RepAll.mono hide_era.ext _ _ h2)
  | _ => exact False.elim h2
end

/-! ### readings at the level of data -/
abbrev DXK := Str → Store → Prop
abbrev DQ := D → Store → Prop
abbrev DE := DEnv → Store → DQ → DXK → Prop
abbrev DT := DEnv → Store → (Bool → Store → Prop) → DXK → Prop
abbrev DA := DEnv → Store → (List D → Store → Prop) → DXK → Prop
structure DEnds where
  nx : DEnv → Store → Prop
  rt : DQ
  bk : DEnv → Store → Prop := fun _ _ => False
  ct : DEnv → Store → Prop := fun _ _ => False
  er : DXK := fun _ _ => False
abbrev DS := DEnds → DEnv → Store → Prop

theorem takes0N {X : Cx} : L2N.Takes X (fun _ _ _ _ => False) := fun _ _ x => by
  obtain ⟨_, _, _, _, _, _, _, _, _, _, _, _, _, _, _, _, z⟩ := x
  exact z.elim
/-- the context of a derivation: the machine's, the tables, what is wished of an exception that leaves -/
structure Dx where
  X : Cx
  T : Tb
  W : XK
  hu : X.A.units + 64 < cLine
  tk : L2N.Takes X (fun cls d _ H => W cls d H)
  po : PassesOwn (model X.prog X.w) X.A X.env X.xe
/-- what readings lean on -/
structure Kx where
  K : PySem.W.Frag
  mg : Str → Option Value
  T : Tb
  W : XK
abbrev Dx.k (C : Dx) : Kx := ⟨C.X.K, C.X.mg, C.T, C.W⟩
/-- from a state on: the state has grown -/
structure Grow (C : Kx) (M : Hid) (G : Store) (H : Hp) (G' : Store) (H' : Hp) : Prop where
  s : SRel C.K C.T M G' H'
  x : Ext (hide M G H) (hide M G' H')
  k : ∀ a, M a = true → H' a = H a
/-- the wish of exceptions is met by E -/
def EW (C : Kx) (M : Hid) (G : Store) (H : Hp) (E : DXK) : Prop := ∀ (n : Str) (c : Addr) (G' : Store) (H' : Hp), C.mg n = some (.ref c) → Grow C M G H G' H' → E n G' → C.W (.ref c) none H'
section
variable {C : Kx} {M : Hid} {G G' G1 G2 : Store} {H H' H1 H2 : Hp} {E : DXK}
theorem Grow.trans (a : Grow C M G H G1 H1) (b : Grow C M G1 H1 G2 H2) : Grow C M G H G2 H2 := ⟨b.s, a.x.trans b.x, fun c m => (b.k c m).trans (a.k c m)⟩
theorem Grow.refl (S : SRel C.K C.T M G H) : Grow C M G H G H := ⟨S, Ext.refl _, fun _ _ => rfl⟩
theorem Grow.new (S : SRel C.K C.T M G H) {p : Addr} {o : HO} (n : H p = none) : Grow C M G H G (upd H p o) := ⟨S.new n, (hide_new n).ext, S.keep (S.seen n)⟩
theorem Grow.putNew (S : SRel C.K C.T M G H) {p : Addr} {o : HO} {m : MO} (n : H p = none) (r : MRep C.K (hide M G H) m o) : Grow C M G H (put G p m) (upd H p o) := ⟨S.putNew n r, (hide_putNew n).ext, S.keep (S.seen n)⟩
theorem Grow.wr (S : SRel C.K C.T M G H) {p : Addr} {o : HO} {m m0 : MO} (h : G p = some m0) (r : MRep C.K (hide M G H) m o) : Grow C M G H (put G p m) (upd H p o) := ⟨S.wr h r, by rw [hide_put h]; exact Ext.refl _, S.keep (S.unhid h)⟩
theorem Grow.era (S : SRel C.K C.T M G H) {p : Addr} : Grow C M G H (FD.era G p) H := ⟨S.eraS, hide_era.ext, fun _ _ => rfl⟩
theorem EW.on (w : EW C M G H E) (g : Grow C M G H G1 H1) : EW C M G1 H1 E := fun n c G' H' hm h e => w n c G' H' hm (g.trans h) e
end
def tE (C : Kx) (f : DE) : TE := fun σ H P => ∃ (M : Hid) (ρ : DEnv) (G : Store) (Q : DQ) (E : DXK), ERel C.K (hide M G H) ρ σ ∧ SRel C.K C.T M G H ∧ EW C M G H E ∧ f ρ G Q E ∧
  ∀ v H' d G', Grow C M G H G' H' → Rep C.K (hide M G' H') v d → Q d G' → P v H'
def tT (C : Kx) (f : DT) : L2.TT := fun σ H P => ∃ (M : Hid) (ρ : DEnv) (G : Store) (Q : Bool → Store → Prop) (E : DXK), ERel C.K (hide M G H) ρ σ ∧ SRel C.K C.T M G H ∧ EW C M G H E ∧ f ρ G Q E ∧
  ∀ b H' G', Grow C M G H G' H' → Q b G' → P b H'
def tA (C : Kx) (f : DA) : TA := fun σ H P => ∃ (M : Hid) (ρ : DEnv) (G : Store) (Q : List D → Store → Prop) (E : DXK), ERel C.K (hide M G H) ρ σ ∧ SRel C.K C.T M G H ∧ EW C M G H E ∧ f ρ G Q E ∧
  ∀ vs H' ds G', Grow C M G H G' H' → RepAll C.K (hide M G' H') vs ds → Q ds G' → P vs H'
def tS (C : Kx) (f : DS) : TS := fun A σ H => ∃ (M : Hid) (ρ : DEnv) (G : Store) (B : DEnds), ERel C.K (hide M G H) ρ σ ∧ SRel C.K C.T M G H ∧ EW C M G H B.er ∧ f B ρ G ∧
  (∀ ρ' σ' G' H', Grow C M G H G' H' → ERel C.K (hide M G' H') ρ' σ' → B.nx ρ' G' → A.nx σ' H') ∧
  (∀ v H' d G', Grow C M G H G' H' → Rep C.K (hide M G' H') v d → B.rt d G' → A.rt v H') ∧
  (∀ ρ' σ' G' H', Grow C M G H G' H' → ERel C.K (hide M G' H') ρ' σ' → B.bk ρ' G' → A.bk σ' H') ∧
  (∀ ρ' σ' G' H', Grow C M G H G' H' → ERel C.K (hide M G' H') ρ' σ' → B.ct ρ' G' → A.ct σ' H')
abbrev PDE (C : Dx) (e : Expr) (f : DE) : Prop := PE C.X e (tE C.k f)
abbrev PDT (C : Dx) (e : Expr) (f : DT) : Prop := PT C.X e (tT C.k f)
abbrev PDW (C : Dx) (e : Expr) (f : DT) : Prop := PW C.X e (tT C.k f)
abbrev PDA (C : Dx) (es : List Expr) (f : DA) : Prop := PA C.X es (tA C.k f)
abbrev PDS (C : Dx) (st : Stmt) (f : DS) : Prop := PS C.X st (tS C.k f)
abbrev PDSs (C : Dx) (st : List Stmt) (f : DS) : Prop := PSs C.X st (tS C.k f)
theorem peI {X : Cx} {e : Expr} {t t' : TE} (h : PE X e t') (i : ∀ σ H P, t σ H P → t' σ H P) : PE X e t := ⟨fun pins s σ H Q I w => h.run pins s σ H Q I (i σ H Q w)⟩
theorem ptI {X : Cx} {e : Expr} {t t' : L2.TT} (h : PT X e t') (i : ∀ σ H P, t σ H P → t' σ H P) : PT X e t := ⟨fun pins s σ H Q I w => h.run pins s σ H Q I (i σ H Q w)⟩
theorem pwI {X : Cx} {e : Expr} {t t' : L2.TT} (h : PW X e t') (i : ∀ σ H P, t σ H P → t' σ H P) : PW X e t := ⟨fun wh pins s σ H Q I w => h.run wh pins s σ H Q I (i σ H Q w)⟩
theorem paI {X : Cx} {es : List Expr} {t t' : TA} (h : PA X es t') (i : ∀ σ H P, t σ H P → t' σ H P) : PA X es t := ⟨fun pos pins s σ H Q I w => h.run pos pins s σ H Q I (i σ H Q w)⟩
theorem psI {X : Cx} {st : Stmt} {t t' : TS} (h : PS X st t') (i : ∀ A σ H, t A σ H → t' A σ H) : PS X st t := ⟨fun pins s σ H A I w => h.run pins s σ H A I (i A σ H w)⟩
theorem pssI {X : Cx} {st : List Stmt} {t t' : TS} (h : PSs X st t') (i : ∀ A σ H, t A σ H → t' A σ H) : PSs X st t := ⟨fun pins s σ H A I w => h.run pins s σ H A I (i A σ H w)⟩
end FD

set_option Elab.async false
set_option linter.all false
set_option maxRecDepth 100000
set_option maxHeartbeats 4000000
set_option autoImplicit false
/-! The D layer, second part: expressions. -/
namespace FD
open PySem PySem.Spec PyProof.Rows L2
section
variable {C : Dx} {pos : Pos}

/-! ### names, constants -/
def dVar (i : Nat) : DE := fun ρ G Q _ => ∃ d, ρ[i]? = some (some d) ∧ Q d G
def dC (d : D) : DE := fun _ G Q _ => Q d G
theorem pd_var (i : Nat) {x : Str} (hN : C.X.N[i]? = some x := by rfl) (hv : Vis C.X.env.scope x := by first | exact Or.inl rfl | exact Or.inr (Or.inl rfl) | exact Or.inr (Or.inr rfl)) (hd : (x == ("__debug__" : Str)) = false := by decide)
    (hcd : (x == ("__classdict__" : Str)) = false := by decide) : PDE C (.Name x pos) (dVar i) := by
  refine peI (pe_var hN hv hd hcd) ?_
  rintro σ H P ⟨M, ρ, G, Q, E, er, sr, ew, ⟨d, h, q⟩, k⟩
  obtain ⟨v, hv, r⟩ := er.at_ i d h
  exact ⟨v, hv, k v H d G (Grow.refl sr) r q⟩
theorem pd_c {e : Expr} {v : V} {d : D} (h : PE C.X e (tC v)) (r : ∀ H, Rep C.X.K H v d) : PDE C e (dC d) := by
  refine peI h ?_
  rintro σ H P ⟨M, ρ, G, Q, E, er, sr, ew, q, k⟩
  exact k v H d G (Grow.refl sr) (r _) q
theorem pd_int {i : Int} {j : Nat} : PDE C (.Constant (.int i) j pos) (dC (.int i)) := pd_c pe_int fun _ => .int _
theorem pd_bl {b : Bool} {j : Nat} : PDE C (.Constant (.bool b) j pos) (dC (.bl b)) := pd_c pe_bl fun _ => .bl _
theorem pd_non {j : Nat} : PDE C (.Constant .none j pos) (dC .non) := pd_c pe_non fun _ => .non
theorem pd_str {x : Str} {j : Nat} : PDE C (.Constant (.str x) j pos) (dC (.str x)) := pd_c pe_str fun _ => .str _
/-- a module's constant -/
theorem pd_gint {x : Str} {i : Int} (hm : ∃ t, C.X.mg x = some (.int i t)) (hg : Gl C.X x := by rfl) (hd : (x == ("__debug__" : Str)) = false := by decide) : PDE C (.Name x pos) (dC (.int i)) := by
  obtain ⟨t, h⟩ := hm
  exact pd_c (pe_glob (v := .int i) hg h ⟨t, rfl⟩ hd) fun _ => .int _
theorem pd_gstr {x z : Str} (hm : ∃ t, C.X.mg x = some (.str z t)) (hg : Gl C.X x := by rfl) (hd : (x == ("__debug__" : Str)) = false := by decide) : PDE C (.Name x pos) (dC (.str z)) := by
  obtain ⟨t, h⟩ := hm
  exact pd_c (pe_glob (v := .str z) hg h ⟨t, rfl⟩ hd) fun _ => .str _
/-- a def, a class as a value -/
theorem pd_gobj {x : Str} {a : Addr} (hm : C.X.mg x = some (.ref a)) (hg : Gl C.X x := by rfl) (hd : (x == ("__debug__" : Str)) = false := by decide) : PDE C (.Name x pos) (dC (.obj (.ref a))) :=
  pd_c (pe_glob (v := .ref a) hg hm rfl hd) fun _ => .obj _

/-! ### operators -/
abbrev G1 := D → Store → DQ → Prop
abbrev G2 := D → D → Store → DQ → Prop
abbrev GN := List D → Store → DQ → Prop
/-- what a rule on values asks, asked of data -/
def OpD (C : Dx) (r : R2) (g : G2) : Prop := ∀ (M : Hid) (G : Store) (H : Hp) (x y : V) (dx dy : D) (Q : DQ) (P : VK), SRel C.X.K C.T M G H → Rep C.X.K (hide M G H) x dx → Rep C.X.K (hide M G H) y dy → g dx dy G Q →
  (∀ v H' d G', Grow C.k M G H G' H' → Rep C.X.K (hide M G' H') v d → Q d G' → P v H') → r x y H P
def UnD (C : Dx) (r : V → Hp → VK → Prop) (g : G1) : Prop := ∀ (M : Hid) (G : Store) (H : Hp) (x : V) (dx : D) (Q : DQ) (P : VK), SRel C.X.K C.T M G H → Rep C.X.K (hide M G H) x dx → g dx G Q →
  (∀ v H' d G', Grow C.k M G H G' H' → Rep C.X.K (hide M G' H') v d → Q d G' → P v H') → r x H P
def CallD (C : Dx) (r : List V → Hp → VK → Prop) (g : GN) : Prop := ∀ (M : Hid) (G : Store) (H : Hp) (xs : List V) (ds : List D) (Q : DQ) (P : VK), SRel C.X.K C.T M G H → RepAll C.X.K (hide M G H) xs ds → g ds G Q →
  (∀ v H' d G', Grow C.k M G H G' H' → Rep C.X.K (hide M G' H') v d → Q d G' → P v H') → r xs H P
def dOp (g : G2) (fa fb : DE) : DE := fun ρ G Q E => fa ρ G (fun x G1 => fb ρ G1 (fun y G2 => g x y G2 Q) E) E
def dUn (g : G1) (fa : DE) : DE := fun ρ G Q E => fa ρ G (fun x G1 => g x G1 Q) E
theorem tE_op {r : R2} {g : G2} {fa fb : DE} (hg : OpD C r g) : ∀ σ H P, tE C.k (dOp g fa fb) σ H P → tOp r (tE C.k fa) (tE C.k fb) σ H P := by
  rintro σ H P ⟨M, ρ, G, Q, E, er, sr, ew, h, k⟩
  refine ⟨M, ρ, G, _, E, er, sr, ew, h, fun v H1 d G1 g1 r1 q1 => ?_⟩
  refine ⟨M, ρ, G1, _, E, er.mono g1.x, g1.s, ew.on g1, q1, fun v2 H2 d2 G2 g2 r2 q2 => ?_⟩
  exact hg M G2 H2 v v2 d d2 Q P g2.s (r1.mono g2.x) r2 q2 fun v3 H3 d3 G3 g3 r3 q3 => k v3 H3 d3 G3 ((g1.trans g2).trans g3) r3 q3
theorem tE_un {r : V → Hp → VK → Prop} {g : G1} {fa : DE} (hg : UnD C r g) : ∀ σ H P, tE C.k (dUn g fa) σ H P → tUn r (tE C.k fa) σ H P := by
  rintro σ H P ⟨M, ρ, G, Q, E, er, sr, ew, h, k⟩
  refine ⟨M, ρ, G, _, E, er, sr, ew, h, fun v H1 d G1 g1 r1 q1 => ?_⟩
  exact hg M G1 H1 v d Q P g1.s r1 q1 fun v3 H3 d3 G3 g3 r3 q3 => k v3 H3 d3 G3 (g1.trans g3) r3 q3
/-- an operator's rule with its reading on data -/
def BinD (C : Dx) (op : Operator) (g : G2) : Prop := ∃ r, OpR C.X (binaryOp op) r ∧ OpD C r g
def CmpD (C : Dx) (op : CmpOp) (g : G2) : Prop := ∃ r, OpR C.X (compareOp op) r ∧ OpD C r g
variable {a b c : Expr} {fa fb fc : DE}
theorem pd_op {op : Operator} {g : G2} (h : BinD C op g) (ha : PDE C a fa) (hb : PDE C b fb) : PDE C (.BinOp a op b pos) (dOp g fa fb) := by
  obtain ⟨r, h1, h2⟩ := h
  exact peI (pe_op h1 ha hb) (tE_op h2)
theorem pd_cmp {op : CmpOp} {g : G2} (h : CmpD C op g) (ha : PDE C a fa) (hb : PDE C b fb) (hm : behindInMarks op b = false) : PDE C (.Compare a [op] [b] pos) (dOp g fa fb) := by
  obtain ⟨r, h1, h2⟩ := h
  exact peI (pe_cmpR h1 ha hb hm) (tE_op h2)
def OpR_or {X : Cx} {f : Value → Value → Sem Value} {r r' : R2} (h : OpR X f r) (h' : OpR X f r') : OpR X f (fun x y H Q => r x y H Q ∨ r' x y H Q) := fun pins s σ H x y v u Q I rx ry q =>
  q.elim (h pins s σ H x y v u Q I rx ry) (h' pins s σ H x y v u Q I rx ry)
/-- the outcome is data, the state as it is -/
theorem here {M : Hid} {G : Store} {H : Hp} {Q : DQ} {P : VK} {v : V} {d : D} (sr : SRel C.X.K C.T M G H) (k : ∀ v H' d G', Grow C.k M G H G' H' → Rep C.X.K (hide M G' H') v d → Q d G' → P v H') (r : Rep C.X.K (hide M G H) v d) (q : Q d G) : P v H := k v H d G (Grow.refl sr) r q
/-- the outcome is a new tuple | a new list -/
theorem made {M : Hid} {G : Store} {H : Hp} {Q : DQ} {P : VK} {p : Addr} {vs : List V} {ds : List D} (sr : SRel C.X.K C.T M G H) (k : ∀ v H' d G', Grow C.k M G H G' H' → Rep C.X.K (hide M G' H') v d → Q d G' → P v H') (r : RepAll C.X.K (hide M G H) vs ds) (n : H p = none) (q : Q (.tup ds) G) : P (.ref p) (upd H p (.tup vs)) :=
  k _ _ _ _ (Grow.new sr n) (.tup (SqT.of (hide_newAt sr n)) (RepAll.mono (hide_new n).ext _ _ r)) q
theorem madeL {M : Hid} {G : Store} {H : Hp} {Q : DQ} {P : VK} {p : Addr} {vs : List V} {ds : List D} (sr : SRel C.X.K C.T M G H) (k : ∀ v H' d G', Grow C.k M G H G' H' → Rep C.X.K (hide M G' H') v d → Q d G' → P v H') (r : RepAll C.X.K (hide M G H) vs ds) (n : H p = none) (q : Q (.lst ds) G) : P (.ref p) (upd H p (.lst vs)) :=
  k _ _ _ _ (Grow.new sr n) (.lst (hide_newAt sr n) (RepAll.mono (hide_new n).ext _ _ r)) q
theorem Rep.sqL {K : PySem.W.Frag} {M : Hid} {G : Store} {H : Hp} {a : Addr} {xs : List V} (h : hide M G H a = some (.lst xs)) : H a = some (.lst xs) := (hide_sub h).1
theorem sqT_hide {K : PySem.W.Frag} {M : Hid} {G : Store} {H : Hp} {a : Addr} {xs : List V} (h : SqT K (hide M G H) a xs) : SqT K H a xs := (hide_ext M G H).rdT h
theorem sqL_hide {K : PySem.W.Frag} {M : Hid} {G : Store} {H : Hp} {a : Addr} {xs : List V} (h : SqL K (hide M G H) a xs) : SqL K H a xs := (hide_ext M G H).rdL h

def gSub : G2
  | .int i, .int j, G, Q => Q (.int (i - j)) G
  | _, _, _, _ => False
theorem bd_sub : BinD C .Sub gSub := ⟨_, op_sub, fun M G H x y dx dy Q P sr rx ry h k => by
  cases rx <;> cases ry <;> first | exact False.elim h | exact ⟨_, _, rfl, rfl, here sr k (.int _) h⟩⟩
def gAdd : G2
  | .int i, .int j, G, Q => Q (.int (i + j)) G
  | .str x, .str y, G, Q => x.length + y.length ≤ sizeLine ∧ Q (.str (x ++ y)) G
  | .tup xs, .tup ys, G, Q => xs.length + ys.length ≤ sizeLine ∧ Q (.tup (xs ++ ys)) G
  | .lst xs, .lst ys, G, Q => xs.length + ys.length ≤ sizeLine ∧ Q (.lst (xs ++ ys)) G
  | _, _, _, _ => False
theorem bd_add : BinD C .Add gAdd := ⟨_, OpR_or op_add (OpR_or op_add_str (OpR_or op_catA op_cat)), fun M G H x y dx dy Q P sr rx ry h k => by
  cases rx with
  | int i =>
    cases ry with
    | int j => exact .inl ⟨_, _, rfl, rfl, here sr k (.int _) h⟩
    | _ => exact False.elim h
  | str i =>
    cases ry with
    | str j => exact .inr (.inl ⟨_, _, rfl, rfl, h.1, here sr k (.str _) h.2⟩)
    | _ => exact False.elim h
  | tup hx rx =>
    cases ry with
    | tup hy ry =>
      refine .inr (.inr (.inl ⟨_, _, _, _, rfl, rfl, sqT_hide hx, sqT_hide hy, by rw [rx.length, ry.length]; exact h.1, fun e => ?_, fun _ e => ?_, fun _ _ p n => made sr k (rx.append ry) n h.2⟩))
      · subst e
        cases rx
        exact here sr k (.tup hy ry) h.2
      · subst e
        cases ry
        have q := h.2
        rw [List.append_nil] at q
        exact here sr k (.tup hx rx) q
    | _ => exact False.elim h
  | lst hx rx =>
    cases ry with
    | lst hy ry => exact .inr (.inr (.inr ⟨_, _, _, _, rfl, rfl, (hide_sub hx).1, (hide_sub hy).1, by rw [rx.length, ry.length]; exact h.1, fun p n => madeL sr k (rx.append ry) n h.2⟩))
    | _ => exact False.elim h
  | _ => exact False.elim h⟩
def gMul : G2
  | .int i, .int j, G, Q => ((-(2 ^ 64) < i ∧ i < 2 ^ 64) ∨ (-(2 ^ 64) < j ∧ j < 2 ^ 64) ∨ (i.natAbs.log2 < 1000 ∧ j.natAbs.log2 < 1000)) ∧ Q (.int (i * j)) G
  | .lst xs, .int k, G, Q => (-(2 ^ 63) ≤ k ∧ k < 2 ^ 63 ∧ xs.length * k.toNat ≤ sizeLine) ∧ Q (.lst (List.replicate k.toNat xs).flatten) G
  | _, _, _, _ => False
theorem RepAll.rep {K : PySem.W.Frag} {H : Hp} {vs : List V} {ds : List D} (r : RepAll K H vs ds) : ∀ n : Nat, RepAll K H (List.replicate n vs).flatten (List.replicate n ds).flatten
  | 0 => .nil
  | n + 1 => by
    rw [List.replicate_succ, List.replicate_succ, List.flatten_cons, List.flatten_cons]
    exact r.append (RepAll.rep r n)
theorem bd_mul : BinD C .Mult gMul := ⟨_, OpR_or op_mul (OpR_or op_mulW op_rep), fun M G H x y dx dy Q P sr rx ry h k => by
  cases rx with
  | int i =>
    cases ry with
    | int j =>
      rcases h.1 with q | q | q
      · exact .inl ⟨_, _, rfl, rfl, .inl q, here sr k (.int _) h.2⟩
      · exact .inl ⟨_, _, rfl, rfl, .inr q, here sr k (.int _) h.2⟩
      · exact .inr (.inl ⟨_, _, rfl, rfl, (show CMulW i j by unfold CMulW; omega), here sr k (.int _) h.2⟩)
    | _ => exact False.elim h
  | lst hx rx =>
    cases ry with
    | int j =>
      obtain ⟨⟨q1, q2, q3⟩, q⟩ := h
      exact .inr (.inr ⟨_, _, _, rfl, rfl, (hide_sub hx).1, q1, q2, by rw [rx.length]; exact q3, fun p n => madeL sr k (rx.rep _) n q⟩)
    | _ => exact False.elim h
  | _ => exact False.elim h⟩
def gDiv : G2
  | .int i, .int j, G, Q => (0 < j ∧ j < 10 ^ 40) ∧ Q (.int (i / j)) G
  | _, _, _, _ => False
theorem log2_10_40 {j : Int} (h0 : 0 < j) (h : j < 10 ^ 40) : j.natAbs.log2 < 9000 := by
  have e : (10 : Int) ^ 40 ≤ 2 ^ 140 := by decide
  have h1 : j.natAbs < 2 ^ 140 := by
    have : j < 2 ^ 140 := Int.lt_of_lt_of_le h e
    omega
  exact Nat.lt_of_lt_of_le (PySem.Flt.log2_lt_of (by decide) h1) (by decide)
theorem bd_div : BinD C .FloorDiv gDiv := ⟨_, op_fdivW, fun M G H x y dx dy Q P sr rx ry h k => by
  cases rx <;> cases ry <;> first | exact False.elim h | exact ⟨_, _, rfl, rfl, ⟨h.1.1, log2_10_40 h.1.1 h.1.2⟩, here sr k (.int _) h.2⟩⟩
def gMod : G2
  | .int i, .int j, G, Q => 0 < j ∧ Q (.int (i % j)) G
  | _, _, _, _ => False
theorem bd_mod : BinD C .Mod gMod := ⟨_, op_mod, fun M G H x y dx dy Q P sr rx ry h k => by
  cases rx <;> cases ry <;> first | exact False.elim h | exact ⟨_, _, rfl, rfl, h.1, here sr k (.int _) h.2⟩⟩
def gPow : G2
  | .int i, .int j, G, Q => (0 ≤ j ∧ j ≤ 1000000 ∧ i.natAbs < 2 ^ 64) ∧ Q (.int (i ^ j.toNat)) G
  | _, _, _, _ => False
theorem bd_pow : BinD C .Pow gPow := ⟨_, op_pow, fun M G H x y dx dy Q P sr rx ry h k => by
  cases rx <;> cases ry <;> first | exact False.elim h | exact ⟨_, _, rfl, rfl, h.1, here sr k (.int _) h.2⟩⟩
end
end FD

set_option Elab.async false
set_option linter.all false
set_option maxRecDepth 100000
set_option maxHeartbeats 4000000
set_option autoImplicit false
/-! The D layer, third part: comparisons, tests, items, slices, displays, calls of built-ins. -/
namespace FD
open PySem PySem.Spec PyProof.Rows L2

/-! ### equality of data -/
mutual
def eqb : D → D → Bool
  | .non, .non => true
  | .bl a, .bl b => a == b
  | .bl a, .int j => (if a then 1 else 0) == j
  | .int i, .bl b => i == (if b then 1 else 0)
  | .int i, .int j => decide (i = j)
  | .str x, .str y => decide (x = y)
  | .tup xs, .tup ys => eqbAll xs ys
  | .lst xs, .lst ys => eqbAll xs ys
  | _, _ => false
def eqbAll : List D → List D → Bool
  | [], [] => true
  | x :: xs, y :: ys => eqb x y && eqbAll xs ys
  | _, _ => false
end
mutual
def toPy : D → PyData
  | .non => .none | .bl b => .bool b | .int i => .int i | .str x => .str x
  | .tup ds => .tuple (toPyAll ds) | .lst ds => .list (toPyAll ds) | .scr _ => .dict [] | .obj _ => .dict []
def toPyAll : List D → List PyData
  | [] => []
  | d :: ds => toPy d :: toPyAll ds
end
/-- plain data to a depth -/
def fit : Nat → D → Bool
  | _, .non => true | _, .bl _ => true | _, .int _ => true | _, .str x => PySem.PyData.strOk x
  | n + 1, .tup ds => ds.all (fit n) | n + 1, .lst ds => ds.all (fit n)
  | _, _ => false
mutual
theorem eqv_py : ∀ (n : Nat) (d e : D), fit n d = true → (∃ m, fit m e = true) → PyData.eqv (toPy d) (toPy e) = eqb d e
  | n, .scr _, _, h, _ => by cases n <;> exact absurd h Bool.false_ne_true
  | n, .obj _, _, h, _ => by cases n <;> exact absurd h Bool.false_ne_true
  | n, _, .scr _, _, ⟨m, h'⟩ => by cases m <;> exact absurd h' Bool.false_ne_true
  | n, _, .obj _, _, ⟨m, h'⟩ => by cases m <;> exact absurd h' Bool.false_ne_true
  | n, .int i, .int j, _, _ => Bool.beq_eq_decide_eq i j
  | n, .str i, .str j, _, _ => Bool.beq_eq_decide_eq i j
  | n, .tup xs, .tup ys, h, ⟨m, h'⟩ => by
    cases n with
    | zero => exact absurd h Bool.false_ne_true
    | succ n =>
      cases m with
      | zero => exact absurd h' Bool.false_ne_true
      | succ m => exact eqvAll_py n xs ys h ⟨m, h'⟩
  | n, .lst xs, .lst ys, h, ⟨m, h'⟩ => by
    cases n with
    | zero => exact absurd h Bool.false_ne_true
    | succ n =>
      cases m with
      | zero => exact absurd h' Bool.false_ne_true
      | succ m => exact eqvAll_py n xs ys h ⟨m, h'⟩
  | n, .non, e, _, _ => by cases e <;> rfl
  | n, .bl _, e, _, _ => by cases e <;> rfl
  | n, .int _, .non, _, _ => rfl
  | n, .int _, .bl _, _, _ => rfl
  | n, .int _, .str _, _, _ => rfl
  | n, .int _, .tup _, _, _ => rfl
  | n, .int _, .lst _, _, _ => rfl
  | n, .str _, .non, _, _ => rfl
  | n, .str _, .bl _, _, _ => rfl
  | n, .str _, .int _, _, _ => rfl
  | n, .str _, .tup _, _, _ => rfl
  | n, .str _, .lst _, _, _ => rfl
  | n, .tup _, .non, _, _ => rfl
  | n, .tup _, .bl _, _, _ => rfl
  | n, .tup _, .int _, _, _ => rfl
  | n, .tup _, .str _, _, _ => rfl
  | n, .tup _, .lst _, _, _ => rfl
  | n, .lst _, .non, _, _ => rfl
  | n, .lst _, .bl _, _, _ => rfl
  | n, .lst _, .int _, _, _ => rfl
  | n, .lst _, .str _, _, _ => rfl
  | n, .lst _, .tup _, _, _ => rfl
theorem eqvAll_py : ∀ (n : Nat) (ds es : List D), ds.all (fit n) = true → (∃ m, es.all (fit m) = true) → PyData.eqvAll (toPyAll ds) (toPyAll es) = eqbAll ds es
  | n, ds, es, h, ⟨m, h'⟩ => by
    cases ds with
    | nil => cases es <;> rfl
    | cons d ds =>
      cases es with
      | nil => rfl
      | cons e es =>
        rw [List.all_cons, Bool.and_eq_true] at h h'
        show (PyData.eqv (toPy d) (toPy e) && PyData.eqvAll (toPyAll ds) (toPyAll es)) = (eqb d e && eqbAll ds es)
        rw [eqv_py n d e h.1 ⟨m, h'.1⟩, eqvAll_py n ds es h.2 ⟨m, h'.2⟩]
end
mutual
theorem shaped_py : ∀ (n : Nat) (d : D), fit n d = true → (toPy d).canLay0 = true ∧ (toPy d).depth ≤ n
  | n, .non, h => ⟨rfl, Nat.zero_le _⟩
  | n, .bl _, h => ⟨rfl, Nat.zero_le _⟩
  | n, .int _, h => ⟨rfl, Nat.zero_le _⟩
  | 0, .str x, h => ⟨h, Nat.zero_le _⟩
  | n + 1, .str x, h => ⟨h, Nat.zero_le _⟩
  | 0, .tup ds, h => absurd h Bool.false_ne_true
  | n + 1, .tup ds, h => by
    obtain ⟨a, b⟩ := shapedAll_py n ds h
    exact ⟨a, by simp only [toPy, PyData.depth]; omega⟩
  | 0, .lst ds, h => absurd h Bool.false_ne_true
  | n + 1, .lst ds, h => by
    obtain ⟨a, b⟩ := shapedAll_py n ds h
    exact ⟨a, by simp only [toPy, PyData.depth]; omega⟩
  | 0, .scr _, h => absurd h Bool.false_ne_true
  | n + 1, .scr _, h => absurd h Bool.false_ne_true
  | 0, .obj _, h => absurd h Bool.false_ne_true
  | n + 1, .obj _, h => absurd h Bool.false_ne_true
theorem shapedAll_py : ∀ (n : Nat) (ds : List D), ds.all (fit n) = true → PyData.canLayAll0 (toPyAll ds) = true ∧ PyData.depthAll (toPyAll ds) ≤ n
  | n, [], h => ⟨rfl, Nat.zero_le _⟩
  | n, d :: ds, h => by
    rw [List.all_cons, Bool.and_eq_true] at h
    obtain ⟨a, b⟩ := shaped_py n d h.1
    obtain ⟨a2, b2⟩ := shapedAll_py n ds h.2
    refine ⟨?_, ?_⟩
    · simp only [toPyAll, PyData.canLayAll0, a, a2, Bool.and_self]
    · simp only [toPyAll, PyData.depthAll]; omega
end
theorem shaped_of {d : D} (h : fit 60 d = true) : SeqAt.shaped (toPy d) = true := by
  obtain ⟨a, b⟩ := shaped_py 60 d h
  unfold SeqAt.shaped
  rw [a, Bool.true_and]
  exact decide_eq_true (by omega)
mutual
theorem Rep.dp {K : PySem.W.Frag} {M : Hid} {G : Store} {H : Hp} : ∀ (n : Nat) (d : D) (v : V), Rep K (hide M G H) v d → fit n d = true → Dp K H v (toPy d)
  | n, .non, _, r, _ => by cases r; exact .non
  | n, .bl _, _, r, _ => by cases r; exact .bl _
  | n, .int _, _, r, _ => by cases r; exact .int _
  | n, .str _, _, r, _ => by cases r; exact .str _
  | 0, .tup _, _, r, h => absurd h Bool.false_ne_true
  | n + 1, .tup ds, _, r, h => by
    cases r with
    | tup hx ra => exact .tup (sqT_hide hx) (RepAll.dp n ds _ ra h)
  | 0, .lst _, _, r, h => absurd h Bool.false_ne_true
  | n + 1, .lst ds, _, r, h => by
    cases r with
    | lst hx ra => exact .lst (SqL.of (hide_sub hx).1) (RepAll.dp n ds _ ra h)
  | 0, .scr _, _, r, h => absurd h Bool.false_ne_true
  | n + 1, .scr _, _, r, h => absurd h Bool.false_ne_true
  | 0, .obj _, _, r, h => absurd h Bool.false_ne_true
  | n + 1, .obj _, _, r, h => absurd h Bool.false_ne_true
theorem RepAll.dp {K : PySem.W.Frag} {M : Hid} {G : Store} {H : Hp} : ∀ (n : Nat) (ds : List D) (vs : List V), RepAll K (hide M G H) vs ds → ds.all (fit n) = true → DpAll K H vs (toPyAll ds)
  | n, [], _, r, _ => by cases r; exact .nil
  | n, d :: ds, _, r, h => by
    rw [List.all_cons, Bool.and_eq_true] at h
    cases r with
    | cons r1 r2 => exact .cons (Rep.dp n d _ r1 h.1) (RepAll.dp n ds _ r2 h.2)
end
/-- data that == may be asked of -/
def cmpOk : D → D → Bool
  | .str _, .str _ => true
  | x, y => fit 60 x && fit 60 y
section
variable {C : Dx} {pos : Pos} {a b c : Expr} {fa fb fc : DE}
def gEq : G2 := fun x y G Q => cmpOk x y = true ∧ Q (.bl (eqb x y)) G
def gNe : G2 := fun x y G Q => cmpOk x y = true ∧ Q (.bl (!eqb x y)) G
theorem cmp_cases {x y : D} (h : cmpOk x y = true) : (∃ s t, x = .str s ∧ y = .str t) ∨ (fit 60 x = true ∧ fit 60 y = true) := by
  unfold cmpOk at h
  split at h
  · exact .inl ⟨_, _, rfl, rfl⟩
  · exact .inr (by simpa [Bool.and_eq_true] using h)
theorem cd_eq : CmpD C .Eq gEq := ⟨_, OpR_or op_eq (op_eqD C.hu), fun M G H x y dx dy Q P sr rx ry h k => by
  rcases cmp_cases h.1 with ⟨s, t, rfl, rfl⟩ | ⟨h1, h2⟩
  · cases rx; cases ry
    refine .inl ⟨rfl, here sr k (.bl _) ?_⟩
    have e : decide (V.str s = V.str t) = decide (s = t) := by
      rw [decide_eq_decide]; exact ⟨fun z => V.str.inj z, fun z => by rw [z]⟩
    rw [e]; exact h.2
  · refine .inr ⟨toPy dx, toPy dy, rx.dp 60 dx _ h1, ry.dp 60 dy _ h2, shaped_of h1, shaped_of h2, here sr k (.bl _) ?_⟩
    rw [eqv_py 60 dx dy h1 ⟨60, h2⟩]; exact h.2⟩
theorem cd_ne : CmpD C .NotEq gNe := ⟨_, OpR_or op_ne (op_neD C.hu), fun M G H x y dx dy Q P sr rx ry h k => by
  rcases cmp_cases h.1 with ⟨s, t, rfl, rfl⟩ | ⟨h1, h2⟩
  · cases rx; cases ry
    refine .inl ⟨rfl, here sr k (.bl _) ?_⟩
    have e : decide (V.str s = V.str t) = decide (s = t) := by
      rw [decide_eq_decide]; exact ⟨fun z => V.str.inj z, fun z => by rw [z]⟩
    rw [e]; exact h.2
  · refine .inr ⟨toPy dx, toPy dy, rx.dp 60 dx _ h1, ry.dp 60 dy _ h2, shaped_of h1, shaped_of h2, here sr k (.bl _) ?_⟩
    rw [eqv_py 60 dx dy h1 ⟨60, h2⟩]; exact h.2⟩
def gCmpI (p : Int → Int → Bool) : G2
  | .int i, .int j, G, Q => Q (.bl (p i j)) G
  | _, _, _, _ => False
theorem opd_I {p : Int → Int → Bool} : OpD C (rI0 fun i j => .bl (p i j)) (gCmpI p) := fun M G H x y dx dy Q P sr rx ry h k => by
  cases rx <;> cases ry <;> first | exact False.elim h | exact ⟨_, _, rfl, rfl, here sr k (.bl _) h⟩
abbrev gLt : G2 := gCmpI fun i j => decide (i < j)
abbrev gLe : G2 := gCmpI fun i j => decide (i ≤ j)
abbrev gGt : G2 := gCmpI fun i j => decide (j < i)
abbrev gGe : G2 := gCmpI fun i j => decide (j ≤ i)
theorem cd_lt : CmpD C .Lt gLt := ⟨_, op_lt, opd_I⟩
theorem cd_le : CmpD C .LtE gLe := ⟨_, op_le, opd_I⟩
theorem cd_gt : CmpD C .Gt gGt := ⟨_, op_gt, opd_I⟩
theorem cd_ge : CmpD C .GtE gGe := ⟨_, op_ge, opd_I⟩
/-- is None -/
def isNon : D → Bool
  | .non => true
  | _ => false
def gIsN : G2
  | .obj _, .non, _, _ => False
  | x, .non, G, Q => Q (.bl (isNon x)) G
  | _, _, _, _ => False
def gNotN : G2
  | .obj _, .non, _, _ => False
  | x, .non, G, Q => Q (.bl (!isNon x)) G
  | _, _, _, _ => False
theorem cd_is : CmpD C .Is gIsN := ⟨_, op_isN, fun M G H x y dx dy Q P sr rx ry h k => by
  cases rx <;> cases ry <;> first | exact False.elim h | exact ⟨rfl, here sr k (.bl _) h⟩⟩
theorem cd_isnot : CmpD C .IsNot gNotN := ⟨_, op_notN, fun M G H x y dx dy Q P sr rx ry h k => by
  cases rx <;> cases ry <;> first | exact False.elim h | exact ⟨rfl, here sr k (.bl _) h⟩⟩
/-- x in (a, b, ..), flat data -/
def flatD : D → Bool
  | .non => true | .bl _ => true | .int _ => true | .str _ => true
  | _ => false
def inD (x : D) (ds : List D) : Bool := ds.any fun y => eqb y x
theorem flat_rep {K : PySem.W.Frag} {H : Hp} {v : V} {d : D} (r : Rep K H v d) (h : flatD d = true) : flatV v = true := by
  cases r <;> first | rfl | exact absurd h Bool.false_ne_true
theorem flat_all {K : PySem.W.Frag} {H : Hp} : ∀ {vs : List V} {ds : List D}, RepAll K H vs ds → ds.all flatD = true → vs.all flatV = true
  | _, _, .nil, _ => rfl
  | _, _, .cons r t, h => by
    rw [List.all_cons, Bool.and_eq_true] at h ⊢
    exact ⟨flat_rep r h.1, flat_all t h.2⟩
theorem eqV_eqb {K : PySem.W.Frag} {H : Hp} {v w : V} {d e : D} (r : Rep K H v d) (q : Rep K H w e) (h : flatD d = true) (h' : flatD e = true) : eqV v w = eqb d e := by
  cases r <;> first
    | exact absurd h Bool.false_ne_true
    | (cases q <;> first
        | exact absurd h' Bool.false_ne_true
        | rfl
        | exact Bool.beq_eq_decide_eq _ _)
theorem in_all {K : PySem.W.Frag} {H : Hp} {v : V} {d : D} (q : Rep K H v d) (h' : flatD d = true) : ∀ {vs : List V} {ds : List D}, RepAll K H vs ds → ds.all flatD = true → inV v vs = inD d ds
  | _, _, .nil, _ => rfl
  | _, _, .cons r t, h => by
    rw [List.all_cons, Bool.and_eq_true] at h
    unfold inV inD
    rw [List.any_cons, List.any_cons, eqV_eqb r q h.1 h']
    exact congrArg _ (in_all q h' t h.2)
/-- one text in another -/
def subB (x y : Str) : Bool := !(Builtin.Str.occurrences y x 0 y.length 1).isEmpty
def gIn (neg : Bool) : G2
  | x, .tup ds, G, Q => (flatD x = true ∧ ds.all flatD = true) ∧ Q (.bl (if neg then !inD x ds else inD x ds)) G
  | x, .lst ds, G, Q => (flatD x = true ∧ ds.all flatD = true) ∧ Q (.bl (if neg then !inD x ds else inD x ds)) G
  | .str x, .str y, G, Q => Q (.bl (if neg then !subB x y else subB x y)) G
  | _, _, _, _ => False
theorem opd_in {neg : Bool} {r2 : R2} (h2 : ∀ x y H Q, (∃ i j, x = V.str i ∧ y = V.str j ∧ Q (V.bl (if neg then !subB i j else subB i j)) H) → r2 x y H Q) : OpD C (fun x y H Q => rIn C.X.K neg x y H Q ∨ r2 x y H Q) (gIn neg) := fun M G H x y dx dy Q P sr rx ry h k => by
  have hd : ∀ {p : Addr} {vs : List V} {ds : List D}, (SqL C.X.K H p vs ∨ SqT C.X.K H p vs) → RepAll C.X.K (hide M G H) vs ds → flatD dx = true → ds.all flatD = true → Q (.bl (if neg then !inD dx ds else inD dx ds)) G → rIn C.X.K neg x (.ref p) H P := fun {p vs ds} hs ra f1 f2 q => by
    refine ⟨p, vs, rfl, hs, flat_rep rx f1, flat_all ra f2, here sr k (.bl _) ?_⟩
    rw [in_all rx f1 ra f2]; exact q
  cases ry with
  | @tup _ _ ds hy ry =>
    have h : (flatD dx = true ∧ ds.all flatD = true) ∧ Q (.bl (if neg then !inD dx ds else inD dx ds)) G := by cases dx <;> exact h
    exact .inl (hd (.inr (sqT_hide hy)) ry h.1.1 h.1.2 h.2)
  | @lst _ _ ds hy ry =>
    have h : (flatD dx = true ∧ ds.all flatD = true) ∧ Q (.bl (if neg then !inD dx ds else inD dx ds)) G := by cases dx <;> exact h
    exact .inl (hd (.inl (SqL.of (hide_sub hy).1)) ry h.1.1 h.1.2 h.2)
  | str j =>
    cases rx with
    | str i => exact .inr (h2 _ _ _ _ ⟨_, _, rfl, rfl, here sr k (.bl _) h⟩)
    | _ => exact False.elim h
  | _ => cases rx <;> exact False.elim h
theorem cd_in : CmpD C .In (gIn false) := ⟨_, OpR_or op_in_seq op_in_str, opd_in fun x y H Q h => h⟩
theorem cd_notin : CmpD C .NotIn (gIn true) := ⟨_, OpR_or op_notIn_seq op_notin_str, opd_in fun x y H Q h => h⟩

/-! ### items, slices -/
theorem atI_rep {K : PySem.W.Frag} {H : Hp} {vs : List V} {ds : List D} {i : Int} {d : D} (r : RepAll K H vs ds) (h : atI ds i = some d) : ∃ v, atI vs i = some v ∧ Rep K H v d := by
  unfold atI at h ⊢
  rw [r.length]
  cases e : ixN ds.length i with
  | none => rw [e] at h; cases h
  | some j =>
    rw [e] at h
    exact r.get h
def gIx : G2
  | .tup ds, .int i, G, Q => ∃ d, atI ds i = some d ∧ Q d G
  | .lst ds, .int i, G, Q => ∃ d, atI ds i = some d ∧ Q d G
  | .scr ns, .int i, G, Q => ∃ n, atI ns i = some n ∧ Q (.int n) G
  | .str z, .int i, G, Q => z.length ≤ sizeLine ∧ ∃ c, atI z.cps.toList i = some c ∧ Q (.str ⟨#[c]⟩) G
  | .obj (.ref p), .int i, G, Q => ∃ ds d, G p = some (.lst ds) ∧ atI ds i = some d ∧ Q d G
  | _, _, _, _ => False
theorem atI_map {ns : List Int} {i n : Int} (h : atI ns i = some n) : atI (ns.map V.int) i = some (.int n) := by
  unfold atI at h ⊢
  rw [List.length_map]
  cases e : ixN ns.length i with
  | none => rw [e] at h; cases h
  | some j =>
    rw [e] at h
    have h' : ns[j]? = some n := h
    show (ns.map V.int)[j]? = some (.int n)
    rw [List.getElem?_map, h']; rfl
theorem opd_ix : OpD C (rIx C.X.K) gIx := fun M G H x y dx dy Q P sr rx ry h k => by
  cases rx with
  | tup hx rx =>
    cases ry with
    | int i =>
      obtain ⟨d, h1, q⟩ := h
      obtain ⟨v, h2, r⟩ := atI_rep rx h1
      exact .inr (.inl ⟨_, _, _, v, rfl, rfl, sqT_hide hx, h2, here sr k r q⟩)
    | _ => exact False.elim h
  | lst hx rx =>
    cases ry with
    | int i =>
      obtain ⟨d, h1, q⟩ := h
      obtain ⟨v, h2, r⟩ := atI_rep rx h1
      exact .inl ⟨_, _, _, v, rfl, rfl, SqL.of (hide_sub hx).1, h2, here sr k r q⟩
    | _ => exact False.elim h
  | scr hx =>
    cases ry with
    | int i =>
      obtain ⟨n, h1, q⟩ := h
      exact .inl ⟨_, _, _, _, rfl, rfl, sqL_hide hx, atI_map h1, here sr k (.int _) q⟩
    | _ => exact False.elim h
  | str z =>
    cases ry with
    | int i =>
      obtain ⟨h0, c, h1, q⟩ := h
      exact .inr (.inr ⟨_, _, c, rfl, rfl, h0, h1, here sr k (.str _) q⟩)
    | _ => exact False.elim h
  | obj =>
    cases x with
    | ref p =>
      cases ry with
      | int i =>
        obtain ⟨ds, d, h0, h1, q⟩ := h
        obtain ⟨o, e1, e2⟩ := sr.sto p _ h0
        cases o with
        | lst vs =>
          obtain ⟨v, h2, r⟩ := atI_rep (show RepAll _ _ vs ds from e2) h1
          exact .inl ⟨_, _, _, v, rfl, rfl, SqL.of e1, h2, here sr k r q⟩
        | _ => exact False.elim e2
      | _ => exact False.elim h
    | _ => cases ry <;> exact False.elim h
  | _ => exact False.elim h
theorem pd_ix (ha : PDE C a fa) (hb : PDE C b fb) (hs : PlainIx b := by intro _ _; rfl) : PDE C (.Subscript a b pos) (dOp gIx fa fb) := peI (pe_ix ix_seq ha hb hs) (tE_op opd_ix)
/-- an optional part -/
abbrev DO := DEnv → Store → (Option Int → Store → Prop) → DXK → Prop
def tO (C : Kx) (f : DO) : TO := fun σ H P => ∃ (M : Hid) (ρ : DEnv) (G : Store) (Q : Option Int → Store → Prop) (E : DXK), ERel C.K (hide M G H) ρ σ ∧ SRel C.K C.T M G H ∧ EW C M G H E ∧ f ρ G Q E ∧
  ∀ o H' G', Grow C M G H G' H' → Q o G' → P o H'
abbrev PDO (C : Dx) (e : Option Expr) (f : DO) : Prop := PO C.X e (tO C.k f)
theorem poI {X : Cx} {e : Option Expr} {t t' : TO} (h : PO X e t') (i : ∀ σ H P, t σ H P → t' σ H P) : PO X e t := ⟨fun pins s σ H Q I w => h.run pins s σ H Q I (i σ H Q w)⟩
def dNone : DO := fun _ G Q _ => Q none G
def dPart (fa : DE) : DO := fun ρ G Q E => fa ρ G (fun x G1 => match x with
  | .int i => Q (some i) G1
  | _ => False) E
theorem pdo_none : PDO C none dNone := by
  refine poI po_none ?_
  rintro σ H P ⟨M, ρ, G, Q, E, er, sr, ew, h, k⟩
  exact k _ _ _ (Grow.refl sr) h
theorem pdo_some (ha : PDE C a fa) : PDO C (some a) (dPart fa) := by
  refine poI (po_some ha) ?_
  rintro σ H P ⟨M, ρ, G, Q, E, er, sr, ew, h, k⟩
  refine ⟨M, ρ, G, _, E, er, sr, ew, h, fun v H1 d G1 g1 r1 q1 => ?_⟩
  cases r1 with
  | int i => exact ⟨i, rfl, k _ _ _ g1 q1⟩
  | _ => exact False.elim q1
def cutD (xs : List D) (lo hi : Option Int) : List D := (xs.drop (HT.sIx xs.length 0 lo)).take (HT.sIx xs.length xs.length hi - HT.sIx xs.length 0 lo)
theorem cut_rep {K : PySem.W.Frag} {H : Hp} {vs : List V} {ds : List D} (r : RepAll K H vs ds) (lo hi : Option Int) : RepAll K H (cutV vs lo hi) (cutD ds lo hi) := by
  unfold cutV cutD
  rw [r.length]
  exact (r.drop _).take _
def gSl : D → Option Int → Option Int → Store → DQ → Prop
  | .tup ds, lo, hi, G, Q => Q (.tup (cutD ds lo hi)) G
  | .lst ds, lo, hi, G, Q => Q (.lst (cutD ds lo hi)) G
  | .str z, lo, hi, G, Q => z.length ≤ sizeLine ∧ Q (.str (cutS z lo hi)) G
  | _, _, _, _, _ => False
def dSl (fe : DE) (fl fh : DO) : DE := fun ρ G Q E => fe ρ G (fun x G1 => fl ρ G1 (fun lo G2 => fh ρ G2 (fun hi G3 => gSl x lo hi G3 Q) E) E) E
theorem SlR_or {X : Cx} {r r' : V → Option Int → Option Int → Hp → VK → Prop} (h : SlR X r) (h' : SlR X r') : SlR X (fun x lo hi H Q => r x lo hi H Q ∨ r' x lo hi H Q) := fun pins s σ H x v vl vu lo hi sl Q I rx hs pl pu q =>
  q.elim (h pins s σ H x v vl vu lo hi sl Q I rx hs pl pu) (h' pins s σ H x v vl vu lo hi sl Q I rx hs pl pu)
theorem cut_whole {α : Type} {xs : List α} {lo hi : Option Int} (h : HT.sIx xs.length 0 lo = 0 ∧ HT.sIx xs.length xs.length hi = xs.length) : (xs.drop (HT.sIx xs.length 0 lo)).take (HT.sIx xs.length xs.length hi - HT.sIx xs.length 0 lo) = xs := by
  rw [h.1, h.2, List.drop_zero, Nat.sub_zero, List.take_length]
theorem pd_slice {lo hi : Option Expr} {fe : DE} {fl fh : DO} {p2 : Pos} (he : PDE C a fe) (hl : PDO C lo fl) (hh : PDO C hi fh) : PDE C (.Subscript a (.Slice lo hi none p2) pos) (dSl fe fl fh) := by
  refine peI (pe_slice (SlR_or sl_tupA (SlR_or sl_list sl_str)) he hl hh) ?_
  rintro σ H P ⟨M, ρ, G, Q, E, er, sr, ew, h, k⟩
  refine ⟨M, ρ, G, _, E, er, sr, ew, h, fun v H1 d G1 g1 r1 q1 => ?_⟩
  refine ⟨M, ρ, G1, _, E, er.mono g1.x, g1.s, ew.on g1, q1, fun lo H2 G2 g2 q2 => ?_⟩
  refine ⟨M, ρ, G2, _, E, er.mono (g1.trans g2).x, g2.s, ew.on (g1.trans g2), q2, fun hi H3 G3 g3 q3 => ?_⟩
  have g := (g1.trans g2).trans g3
  have r := r1.mono (g2.trans g3).x
  have k' : ∀ v H' d G', Grow C.k M G3 H3 G' H' → Rep C.X.K (hide M G' H') v d → Q d G' → P v H' := fun v H' d G' g' r' q' => k v H' d G' (g.trans g') r' q'
  cases r with
  | tup hx rx =>
    refine .inl ⟨_, _, rfl, sqT_hide hx, fun e => ?_, fun _ p n => made g3.s k' (cut_rep rx lo hi) n q3⟩
    have e2 := cut_whole e
    have q3' : Q (.tup (cutD _ lo hi)) G3 := q3
    unfold cutD at q3'
    rw [← rx.length, e.1, e.2, List.drop_zero, Nat.sub_zero, rx.length, List.take_length] at q3'
    exact here g3.s k' (.tup hx rx) q3'
  | lst hx rx => exact .inr (.inl ⟨_, _, rfl, SqL.of (hide_sub hx).1, fun p n => madeL g3.s k' (cut_rep rx lo hi) n q3⟩)
  | str z => exact .inr (.inr ⟨_, rfl, q3.1, here g3.s k' (.str _) q3.2⟩)
  | _ => exact False.elim q3
end
end FD

set_option Elab.async false
set_option linter.all false
set_option maxRecDepth 100000
set_option maxHeartbeats 4000000
set_option autoImplicit false
/-! The D layer, fourth part: tests, arguments, displays, calls. -/
namespace FD
open PySem PySem.Spec PyProof.Rows L2
section
variable {C : Dx} {pos : Pos} {a b c : Expr} {fa fb fc : DE} {es : List Expr}

/-! ### tests -/
def dB (f : DE) : DT := fun ρ G Q E => f ρ G (fun d G1 => match d with
  | .bl k => Q k G1
  | _ => False) E
theorem tT_B {f : DE} : ∀ σ H P, tT C.k (dB f) σ H P → tTest (tE C.k f) σ H P := by
  rintro σ H P ⟨M, ρ, G, Q, E, er, sr, ew, h, k⟩
  refine ⟨M, ρ, G, _, E, er, sr, ew, h, fun v H1 d G1 g1 r1 q1 => ?_⟩
  cases r1 with
  | bl b => exact ⟨b, rfl, k _ _ _ g1 q1⟩
  | _ => exact False.elim q1
theorem pdt_val {e : Expr} {f : DE} (h : PDE C e f) (he : ∀ whole, isTrue e C.X.env whole = (do let v ← whole; standAt e.pos; holding [v] (truthy v)) := by intro _; rfl) : PDT C e (dB f) := ptI (pt_val h he) tT_B
theorem pdt_cmp {op : CmpOp} {g : G2} (h : CmpD C op g) (ha : PDE C a fa) (hb : PDE C b fb) (hm : behindInMarks op b = false) : PDT C (.Compare a [op] [b] pos) (dB (dOp g fa fb)) := by
  obtain ⟨r, h1, h2⟩ := h
  refine ptI (pt_cmpR h1 ha hb hm) fun σ H P w => ?_
  have q := tT_B σ H P w
  exact tE_op h2 _ _ _ q
/-- a chain of two comparisons -/
def dChain (g g' : G2) (fa fb fc : DE) : DE := fun ρ G Q E => fa ρ G (fun x G1 => fb ρ G1 (fun y G2 => g x y G2 fun z G3 => match z with
  | .bl true => fc ρ G3 (fun w G4 => g' y w G4 Q) E
  | .bl false => Q (.bl false) G3
  | _ => False) E) E
theorem tE_chain {op op' : CmpOp} {r r' : R2} {g g' : G2} (h2 : OpD C r g) (h2' : OpD C r' g') : ∀ σ H P, tE C.k (dChain g g' fa fb fc) σ H P → tChain r r' (tE C.k fa) (tE C.k fb) (tE C.k fc) σ H P := by
  rintro σ H P ⟨M, ρ, G, Q, E, er, sr, ew, h, k⟩
  refine ⟨M, ρ, G, _, E, er, sr, ew, h, fun v H1 d G1 g1 r1 q1 => ?_⟩
  refine ⟨M, ρ, G1, _, E, er.mono g1.x, g1.s, ew.on g1, q1, fun v2 H2 d2 G2 g2 r2 q2 => ?_⟩
  refine h2 M G2 H2 v v2 d d2 _ _ g2.s (r1.mono g2.x) r2 q2 fun v3 H3 d3 G3 g3 r3 q3 => ?_
  have g := (g1.trans g2).trans g3
  cases r3 with
  | bl t =>
    refine ⟨t, rfl, ?_⟩
    cases t with
    | true =>
      refine ⟨M, ρ, G3, _, E, er.mono g.x, g.s, ew.on g, q3, fun v4 H4 d4 G4 g4 r4 q4 => ?_⟩
      exact h2' M G4 H4 v2 v4 d2 d4 Q P g4.s (r2.mono (g3.trans g4).x) r4 q4 fun v5 H5 d5 G5 g5 r5 q5 => k v5 H5 d5 G5 ((g.trans g4).trans g5) r5 q5
    | false => exact k _ _ _ _ g (.bl _) q3
  | _ => exact False.elim q3
theorem pd_chain {op op' : CmpOp} {g g' : G2} (h : CmpD C op g) (h' : CmpD C op' g') (ha : PDE C a fa) (hb : PDE C b fb) (hc : PDE C c fc)
    (hm : lastMarks [op, op'] [b, c] = false := by with_unfolding_all rfl) : PDE C (.Compare a [op, op'] [b, c] pos) (dChain g g' fa fb fc) := by
  obtain ⟨r, o1, d1⟩ := h
  obtain ⟨r', o2, d2⟩ := h'
  exact peI (pe_chain o1 o2 ha hb hc hm) (tE_chain (op := op) (op' := op') d1 d2)
theorem pdt_chain {op op' : CmpOp} {g g' : G2} (h : CmpD C op g) (h' : CmpD C op' g') (ha : PDE C a fa) (hb : PDE C b fb) (hc : PDE C c fc)
    (hm : lastMarks [op, op'] [b, c] = false := by with_unfolding_all rfl) : PDT C (.Compare a [op, op'] [b, c] pos) (dB (dChain g g' fa fb fc)) := by
  obtain ⟨r, o1, d1⟩ := h
  obtain ⟨r', o2, d2⟩ := h'
  refine ptI (pt_chain o1 o2 ha hb hc hm) fun σ H P w => ?_
  exact tE_chain (op := op) (op' := op') d1 d2 _ _ _ (tT_B σ H P w)

/-! ### and, or, not, if else -/
variable {f g : DT} {rest : List Expr}
def dAnd (f g : DT) : DT := fun ρ G Q E => f ρ G (fun b G1 => match b with
  | true => g ρ G1 Q E
  | false => Q false G1) E
def dOr (f g : DT) : DT := fun ρ G Q E => f ρ G (fun b G1 => match b with
  | true => Q true G1
  | false => g ρ G1 Q E) E
def dNot (f : DT) : DT := fun ρ G Q E => f ρ G (fun b G1 => Q (!b) G1) E
theorem tT_And : ∀ σ H P, tT C.k (dAnd f g) σ H P → tAnd (tT C.k f) (tT C.k g) σ H P := by
  rintro σ H P ⟨M, ρ, G, Q, E, er, sr, ew, h, k⟩
  refine ⟨M, ρ, G, _, E, er, sr, ew, h, fun b H1 G1 g1 q1 => ?_⟩
  cases b with
  | true => exact ⟨M, ρ, G1, Q, E, er.mono g1.x, g1.s, ew.on g1, q1, fun b2 H2 G2 g2 q2 => k b2 H2 G2 (g1.trans g2) q2⟩
  | false => exact k _ _ _ g1 q1
theorem tT_Or : ∀ σ H P, tT C.k (dOr f g) σ H P → tOr (tT C.k f) (tT C.k g) σ H P := by
  rintro σ H P ⟨M, ρ, G, Q, E, er, sr, ew, h, k⟩
  refine ⟨M, ρ, G, _, E, er, sr, ew, h, fun b H1 G1 g1 q1 => ?_⟩
  cases b with
  | true => exact k _ _ _ g1 q1
  | false => exact ⟨M, ρ, G1, Q, E, er.mono g1.x, g1.s, ew.on g1, q1, fun b2 H2 G2 g2 q2 => k b2 H2 G2 (g1.trans g2) q2⟩
theorem pdw_and1 (h : PDT C a f) : PDW C (.BoolOp .And [a] pos) f := pw_and1 h
theorem pdw_or1 (h : PDT C a f) : PDW C (.BoolOp .Or [a] pos) f := pw_or1 h
theorem pdw_and (h : PDT C a f) (h2 : PDW C (.BoolOp .And (b :: rest) pos) g) : PDW C (.BoolOp .And (a :: b :: rest) pos) (dAnd f g) := pwI (pw_and h h2) tT_And
theorem pdw_or (h : PDT C a f) (h2 : PDW C (.BoolOp .Or (b :: rest) pos) g) : PDW C (.BoolOp .Or (a :: b :: rest) pos) (dOr f g) := pwI (pw_or h h2) tT_Or
theorem pdt_w {e : Expr} (h : PDW C e f) : PDT C e f := PW.pt h
theorem pdt_not (h : PDT C a f) : PDT C (.UnaryOp .Not a pos) (dNot f) := by
  refine ptI (pt_not h) ?_
  rintro σ H P ⟨M, ρ, G, Q, E, er, sr, ew, h, k⟩
  exact ⟨M, ρ, G, _, E, er, sr, ew, h, fun b H1 G1 g1 q1 => k _ _ _ g1 q1⟩
/-- as values: all but the last True or False -/
def dAndV (fa fb : DE) : DE := fun ρ G Q E => fa ρ G (fun x G1 => match x with
  | .bl true => fb ρ G1 Q E
  | .bl false => Q (.bl false) G1
  | _ => False) E
def dOrV (fa fb : DE) : DE := fun ρ G Q E => fa ρ G (fun x G1 => match x with
  | .bl true => Q (.bl true) G1
  | .bl false => fb ρ G1 Q E
  | _ => False) E
def dNotV (fa : DE) : DE := fun ρ G Q E => fa ρ G (fun x G1 => match x with
  | .bl b => Q (.bl (!b)) G1
  | _ => False) E
theorem pd_one {op : BoolOp} (h : PDE C a fa) : PDE C (.BoolOp op [a] pos) fa := pe_one h
theorem pd_and (ha : PDE C a fa) (hb : PDE C (.BoolOp .And (b :: rest) pos) fb) : PDE C (.BoolOp .And (a :: b :: rest) pos) (dAndV fa fb) := by
  refine peI (pe_and ha hb) ?_
  rintro σ H P ⟨M, ρ, G, Q, E, er, sr, ew, h, k⟩
  refine ⟨M, ρ, G, _, E, er, sr, ew, h, fun v H1 d G1 g1 r1 q1 => ?_⟩
  cases r1 with
  | bl t =>
    refine ⟨t, rfl, ?_⟩
    cases t with
    | true => exact ⟨M, ρ, G1, Q, E, er.mono g1.x, g1.s, ew.on g1, q1, fun v2 H2 d2 G2 g2 r2 q2 => k v2 H2 d2 G2 (g1.trans g2) r2 q2⟩
    | false => exact k _ _ _ _ g1 (.bl _) q1
  | _ => exact False.elim q1
theorem pd_or (ha : PDE C a fa) (hb : PDE C (.BoolOp .Or (b :: rest) pos) fb) : PDE C (.BoolOp .Or (a :: b :: rest) pos) (dOrV fa fb) := by
  refine peI (pe_or ha hb) ?_
  rintro σ H P ⟨M, ρ, G, Q, E, er, sr, ew, h, k⟩
  refine ⟨M, ρ, G, _, E, er, sr, ew, h, fun v H1 d G1 g1 r1 q1 => ?_⟩
  cases r1 with
  | bl t =>
    refine ⟨t, rfl, ?_⟩
    cases t with
    | true => exact k _ _ _ _ g1 (.bl _) q1
    | false => exact ⟨M, ρ, G1, Q, E, er.mono g1.x, g1.s, ew.on g1, q1, fun v2 H2 d2 G2 g2 r2 q2 => k v2 H2 d2 G2 (g1.trans g2) r2 q2⟩
  | _ => exact False.elim q1
theorem pd_not (ha : PDE C a fa) : PDE C (.UnaryOp .Not a pos) (dNotV fa) := by
  refine peI (pe_not ha) ?_
  rintro σ H P ⟨M, ρ, G, Q, E, er, sr, ew, h, k⟩
  refine ⟨M, ρ, G, _, E, er, sr, ew, h, fun v H1 d G1 g1 r1 q1 => ?_⟩
  cases r1 with
  | bl t => exact ⟨t, rfl, k _ _ _ _ g1 (.bl _) q1⟩
  | _ => exact False.elim q1
def dNeg (fa : DE) : DE := fun ρ G Q E => fa ρ G (fun x G1 => match x with
  | .int i => Q (.int (-i)) G1
  | _ => False) E
theorem pd_neg (ha : PDE C a fa) : PDE C (.UnaryOp .USub a pos) (dNeg fa) := by
  refine peI (pe_un un_neg ha) ?_
  rintro σ H P ⟨M, ρ, G, Q, E, er, sr, ew, h, k⟩
  refine ⟨M, ρ, G, _, E, er, sr, ew, h, fun v H1 d G1 g1 r1 q1 => ?_⟩
  cases r1 with
  | int t => exact ⟨t, rfl, k _ _ _ _ g1 (.int _) q1⟩
  | _ => exact False.elim q1
def dIf (f : DT) (fa fb : DE) : DE := fun ρ G Q E => f ρ G (fun t G1 => match t with
  | true => fa ρ G1 Q E
  | false => fb ρ G1 Q E) E
theorem pd_if (hc : PDT C c f) (ha : PDE C a fa) (hb : PDE C b fb) : PDE C (.IfExp c a b pos) (dIf f fa fb) := by
  refine peI (pe_ifExp hc ha hb) ?_
  rintro σ H P ⟨M, ρ, G, Q, E, er, sr, ew, h, k⟩
  refine ⟨M, ρ, G, _, E, er, sr, ew, h, fun t H1 G1 g1 q1 => ?_⟩
  cases t with
  | true => exact ⟨M, ρ, G1, Q, E, er.mono g1.x, g1.s, ew.on g1, q1, fun v2 H2 d2 G2 g2 r2 q2 => k v2 H2 d2 G2 (g1.trans g2) r2 q2⟩
  | false => exact ⟨M, ρ, G1, Q, E, er.mono g1.x, g1.s, ew.on g1, q1, fun v2 H2 d2 G2 g2 r2 q2 => k v2 H2 d2 G2 (g1.trans g2) r2 q2⟩

/-! ### arguments, displays -/
def dNil : DA := fun _ G Q _ => Q [] G
def dCons (fa : DE) (fs : DA) : DA := fun ρ G Q E => fa ρ G (fun x G1 => fs ρ G1 (fun xs G2 => Q (x :: xs) G2) E) E
variable {fs : DA}
theorem pda_nil : PDA C [] dNil := by
  refine paI pa_nil ?_
  rintro σ H P ⟨M, ρ, G, Q, E, er, sr, ew, h, k⟩
  exact k _ _ _ _ (Grow.refl sr) .nil h
theorem pda_cons (ha : PDE C a fa) (hs : PDA C es fs) (hst : starEach (a :: es) C.X.env = (false, eval a C.X.env) :: starEach es C.X.env := by rfl) : PDA C (a :: es) (dCons fa fs) := by
  refine paI (pa_cons ha hs hst) ?_
  rintro σ H P ⟨M, ρ, G, Q, E, er, sr, ew, h, k⟩
  refine ⟨M, ρ, G, _, E, er, sr, ew, h, fun v H1 d G1 g1 r1 q1 => ?_⟩
  refine ⟨M, ρ, G1, _, E, er.mono g1.x, g1.s, ew.on g1, q1, fun vs H2 ds G2 g2 r2 q2 => ?_⟩
  exact k _ _ _ _ (g1.trans g2) (.cons (r1.mono g2.x) r2) q2
def dTup (fs : DA) : DE := fun ρ G Q E => fs ρ G (fun ds G1 => ds.length ≤ sizeLine ∧ Q (.tup ds) G1) E
theorem pd_tup {x1 : Nat} (h : PDA C es fs) : PDE C (.Tuple es x1 pos) (dTup fs) := by
  refine peI (pe_tup h) ?_
  rintro σ H P ⟨M, ρ, G, Q, E, er, sr, ew, h, k⟩
  refine ⟨M, ρ, G, _, E, er, sr, ew, h, fun vs H1 ds G1 g1 r1 q1 => ⟨by rw [r1.length]; exact q1.1, fun p n => ?_⟩⟩
  exact made g1.s (fun v H' d G' g' => k v H' d G' (g1.trans g')) r1 n q1.2
def dLst (fs : DA) : DE := fun ρ G Q E => fs ρ G (fun ds G1 => ds.length ≤ sizeLine ∧ Q (.lst ds) G1) E
theorem pd_lst (h : PDA C es fs) : PDE C (.List es pos) (dLst fs) := by
  refine peI (pe_lst h) ?_
  rintro σ H P ⟨M, ρ, G, Q, E, er, sr, ew, h, k⟩
  refine ⟨M, ρ, G, _, E, er, sr, ew, h, fun vs H1 ds G1 g1 r1 q1 => ⟨by rw [r1.length]; exact q1.1, fun p n => ?_⟩⟩
  exact madeL g1.s (fun v H' d G' g' => k v H' d G' (g1.trans g')) r1 n q1.2
/-- a list that will change -/
def dLstM (fs : DA) : DE := fun ρ G Q E => fs ρ G (fun ds G1 => ds.length ≤ sizeLine ∧ ∀ p, G1 p = none → Q (.obj (.ref p)) (put G1 p (.lst ds))) E
theorem madeM {M : Hid} {G : Store} {H : Hp} {Q : DQ} {P : VK} {p : Addr} {vs : List V} {ds : List D} (sr : SRel C.X.K C.T M G H) (k : ∀ v H' d G', Grow C.k M G H G' H' → Rep C.X.K (hide M G' H') v d → Q d G' → P v H') (r : RepAll C.X.K (hide M G H) vs ds) (n : H p = none)
    (q : ∀ p, G p = none → Q (.obj (.ref p)) (put G p (.lst ds))) : P (.ref p) (upd H p (.lst vs)) :=
  k _ _ _ _ (Grow.putNew (m := .lst ds) (o := .lst vs) sr n r) (.obj _) (q p (sr.none_of n))
theorem pd_lstM (h : PDA C es fs) : PDE C (.List es pos) (dLstM fs) := by
  refine peI (pe_lst h) ?_
  rintro σ H P ⟨M, ρ, G, Q, E, er, sr, ew, h, k⟩
  refine ⟨M, ρ, G, _, E, er, sr, ew, h, fun vs H1 ds G1 g1 r1 q1 => ⟨by rw [r1.length]; exact q1.1, fun p n => ?_⟩⟩
  exact madeM g1.s (fun v H' d G' g' => k v H' d G' (g1.trans g')) r1 n q1.2

/-! ### calls of built-ins -/
def dCB (g : GN) (fs : DA) : DE := fun ρ G Q E => fs ρ G (fun ds G1 => g ds G1 Q) E
theorem tE_CB {r : List V → Hp → VK → Prop} {g : GN} (hg : CallD C r g) : ∀ σ H P, tE C.k (dCB g fs) σ H P → tCB r (tA C.k fs) σ H P := by
  rintro σ H P ⟨M, ρ, G, Q, E, er, sr, ew, h, k⟩
  refine ⟨M, ρ, G, _, E, er, sr, ew, h, fun vs H1 ds G1 g1 r1 q1 => ?_⟩
  exact hg M G1 H1 vs ds Q P g1.s r1 q1 fun v3 H3 d3 G3 g3 r3 q3 => k v3 H3 d3 G3 (g1.trans g3) r3 q3
/-- a built-in's rule with its reading on data -/
def BltD (C : Dx) (f : Value) (g : GN) : Prop := ∃ r, CallR C.X f r ∧ CallD C r g
theorem pd_callB {x : Str} {id : String} {g : GN} {p : Pos} (h : BltD C (.builtin id) g) (hm : C.X.mg x = none) (hv : bootBuiltins x = some (.builtin id)) (ha : PDA C (a :: es) fs) (hg : Gl C.X x := by rfl) (hn : x ≠ "__name__" := by decide) (hdb : (x == ("__debug__" : Str)) = false := by decide)
    (he : starEach (a :: es) C.X.env = (false, eval a C.X.env) :: starEach es C.X.env := by rfl) (hpl : (backTo pos (starEach es C.X.env)).any (·.1) = false := by rfl) : PDE C (.Call (.Name x p) (a :: es) [] pos) (dCB g fs) := by
  obtain ⟨r, h1, h2⟩ := h
  exact peI (pe_callB h1 hg hm hv ha hn hdb he hpl) (tE_CB h2)
theorem pd_callTy {x : Str} {T : String} {g : GN} {p : Pos} (h : BltD C (.type T) g) (hm : C.X.mg x = none) (hv : bootBuiltins x = some (.type T)) (ha : PDA C (a :: es) fs) (hg : Gl C.X x := by rfl) (hn : x ≠ "__name__" := by decide) (hdb : (x == ("__debug__" : Str)) = false := by decide)
    (he : starEach (a :: es) C.X.env = (false, eval a C.X.env) :: starEach es C.X.env := by rfl) (hpl : (backTo pos (starEach es C.X.env)).any (·.1) = false := by rfl) : PDE C (.Call (.Name x p) (a :: es) [] pos) (dCB g fs) := by
  obtain ⟨r, h1, h2⟩ := h
  exact peI (pe_callTy h1 hg hm hv ha hn hdb he hpl) (tE_CB h2)
end
end FD

set_option Elab.async false
set_option linter.all false
set_option maxRecDepth 100000
set_option maxHeartbeats 4000000
set_option autoImplicit false
/-! The D layer, fifth part: built-ins on data, calls of defs, methods, targets, statements, loops. -/
namespace FD
open PySem PySem.Spec PyProof.Rows L2
section
variable {C : Dx} {pos : Pos} {a b c e : Expr} {fa fb fc fe : DE} {es : List Expr} {fs : DA}

/-! ### built-ins on data -/
theorem rep1 {K : PySem.W.Frag} {H : Hp} {vs : List V} {d : D} (r : RepAll K H vs [d]) : ∃ v, vs = [v] ∧ Rep K H v d := by
  cases r with
  | cons r1 r2 => cases r2; exact ⟨_, rfl, r1⟩
theorem rep2 {K : PySem.W.Frag} {H : Hp} {vs : List V} {d e : D} (r : RepAll K H vs [d, e]) : ∃ v w, vs = [v, w] ∧ Rep K H v d ∧ Rep K H w e := by
  cases r with
  | cons r1 r2 =>
    obtain ⟨w, rfl, r3⟩ := rep1 r2
    exact ⟨_, _, rfl, r1, r3⟩
theorem repI {K : PySem.W.Frag} {H : Hp} {v : V} {i : Int} (r : Rep K H v (.int i)) : v = .int i := by cases r; rfl
theorem repB {K : PySem.W.Frag} {H : Hp} {v : V} {i : Bool} (r : Rep K H v (.bl i)) : v = .bl i := by cases r; rfl
theorem repS {K : PySem.W.Frag} {H : Hp} {v : V} {i : Str} (r : Rep K H v (.str i)) : v = .str i := by cases r; rfl
def gLen : GN
  | [.tup ds], G, Q => Q (.int ds.length) G
  | [.lst ds], G, Q => Q (.int ds.length) G
  | [.scr ns], G, Q => Q (.int ns.length) G
  | [.str z], G, Q => z.length ≤ sizeLine ∧ Q (.int z.length) G
  | [.obj (.ref p)], G, Q => ∃ ds, G p = some (.lst ds) ∧ Q (.int ds.length) G
  | _, _, _ => False
theorem bt_len : BltD C (.builtin "len") gLen := ⟨_, call_len, fun M G H xs ds Q P sr r h k => by
  match ds, h with
  | [.tup ds], h =>
    obtain ⟨v, rfl, r1⟩ := rep1 r
    cases r1 with
    | tup hx ra => exact ⟨_, _, rfl, .inr ⟨_, sqT_hide hx, rfl⟩, by rw [ra.length]; exact here sr k (.int _) h⟩
  | [.lst ds], h =>
    obtain ⟨v, rfl, r1⟩ := rep1 r
    cases r1 with
    | lst hx ra => exact ⟨_, _, rfl, .inl ⟨_, SqL.of (hide_sub hx).1, rfl⟩, by rw [ra.length]; exact here sr k (.int _) h⟩
  | [.scr ns], h =>
    obtain ⟨v, rfl, r1⟩ := rep1 r
    cases r1 with
    | scr hx => exact ⟨_, _, rfl, .inl ⟨_, sqL_hide hx, rfl⟩, by rw [List.length_map]; exact here sr k (.int _) h⟩
  | [.str z], h =>
    obtain ⟨v, rfl, r1⟩ := rep1 r
    cases r1
    exact ⟨_, _, rfl, ⟨h.1, rfl⟩, here sr k (.int _) h.2⟩
  | [.obj (.ref p)], h =>
    obtain ⟨v, rfl, r1⟩ := rep1 r
    cases r1
    obtain ⟨ds, h0, q⟩ := h
    obtain ⟨o, e1, e2⟩ := sr.sto p _ h0
    cases o with
    | lst vs => exact ⟨_, _, rfl, .inl ⟨_, SqL.of e1, rfl⟩, by rw [RepAll.length (show RepAll _ _ vs ds from e2)]; exact here sr k (.int _) q⟩
    | _ => exact False.elim e2⟩
def gInt : GN
  | [.int i], G, Q => Q (.int i) G
  | [.bl b], G, Q => Q (.int (if b then 1 else 0)) G
  | _, _, _ => False
theorem bt_int : BltD C (.type "int") gInt := ⟨_, call_int1, fun M G H xs ds Q P sr r h k => by
  match ds, h with
  | [.int i], h =>
    obtain ⟨v, rfl, r1⟩ := rep1 r
    cases r1
    exact .inl ⟨_, rfl, here sr k (.int _) h⟩
  | [.bl i], h =>
    obtain ⟨v, rfl, r1⟩ := rep1 r
    cases r1
    exact .inr ⟨_, rfl, here sr k (.int _) h⟩⟩
def gAbs : GN
  | [.int i], G, Q => Q (.int (if i < 0 then -i else i)) G
  | _, _, _ => False
theorem bt_abs : BltD C (.builtin "abs") gAbs := ⟨_, call_abs, fun M G H xs ds Q P sr r h k => by
  match ds, h with
  | [.int i], h =>
    obtain ⟨v, rfl, r1⟩ := rep1 r
    cases r1
    exact ⟨_, rfl, here sr k (.int _) h⟩⟩
def gMax : GN
  | [.int i, .int j], G, Q => Q (.int (if j > i then j else i)) G
  | _, _, _ => False
def gMin : GN
  | [.int i, .int j], G, Q => Q (.int (if j < i then j else i)) G
  | _, _, _ => False
theorem bt_max (hc : C.X.calm = true) : BltD C (.builtin "max") gMax := ⟨_, call_max2 hc, fun M G H xs ds Q P sr r h k => by
  match ds, h with
  | [.int i, .int j], h =>
    obtain ⟨v, w, rfl, r1, r2⟩ := rep2 r
    cases r1; cases r2
    exact ⟨_, _, rfl, here sr k (.int _) h⟩⟩
theorem bt_min (hc : C.X.calm = true) : BltD C (.builtin "min") gMin := ⟨_, call_min2 hc, fun M G H xs ds Q P sr r h k => by
  match ds, h with
  | [.int i, .int j], h =>
    obtain ⟨v, w, rfl, r1, r2⟩ := rep2 r
    cases r1; cases r2
    exact ⟨_, _, rfl, here sr k (.int _) h⟩⟩
/-- all of a list of bools -/
def gAll : GN
  | [.lst ds], G, Q => ∃ bs : List Bool, ds = bs.map D.bl ∧ Q (.bl (bs.all id)) G
  | _, _, _ => False
theorem repBls {K : PySem.W.Frag} {H : Hp} : ∀ {bs : List Bool} {vs : List V}, RepAll K H vs (bs.map D.bl) → vs = bs.map V.bl
  | [], _, r => by cases r; rfl
  | b :: bs, _, r => by
    cases r with
    | cons r1 r2 => cases r1; rw [repBls r2]; rfl
theorem repStrs {K : PySem.W.Frag} {H : Hp} : ∀ {bs : List Str} {vs : List V}, RepAll K H vs (bs.map D.str) → vs = bs.map V.str
  | [], _, r => by cases r; rfl
  | b :: bs, _, r => by
    cases r with
    | cons r1 r2 => cases r1; rw [repStrs r2]; rfl
theorem repInts {K : PySem.W.Frag} {H : Hp} : ∀ {bs : List Int} {vs : List V}, RepAll K H vs (bs.map D.int) → vs = bs.map V.int
  | [], _, r => by cases r; rfl
  | b :: bs, _, r => by
    cases r with
    | cons r1 r2 => cases r1; rw [repInts r2]; rfl
theorem repStrsMk {K : PySem.W.Frag} {H : Hp} : ∀ {bs : List Str}, RepAll K H (bs.map V.str) (bs.map D.str)
  | [] => .nil
  | b :: bs => .cons (.str _) repStrsMk
theorem repIntsMk {K : PySem.W.Frag} {H : Hp} : ∀ {bs : List Int}, RepAll K H (bs.map V.int) (bs.map D.int)
  | [] => .nil
  | b :: bs => .cons (.int _) repIntsMk
theorem bt_all (hc : C.X.calm = true) : BltD C (.builtin "all") gAll := ⟨_, cr_all hc, fun M G H xs ds Q P sr r h k => by
  match ds, h with
  | [.lst ds], h =>
    obtain ⟨v, rfl, r1⟩ := rep1 r
    obtain ⟨bs, rfl, q⟩ := h
    cases r1 with
    | lst hx ra =>
      rw [repBls ra] at hx
      exact ⟨_, bs, rfl, SqL.of (hide_sub hx).1, here sr k (.bl _) q⟩⟩
/-- tuple(..), list(..) -/
def gTuple : GN
  | [.lst ds], G, Q => Q (.tup ds) G
  | [.tup ds], G, Q => Q (.tup ds) G
  | [.obj (.ref p)], G, Q => ∃ ds, G p = some (.lst ds) ∧ Q (.tup ds) G
  | _, _, _ => False
theorem bt_tuple : BltD C (.type "tuple") gTuple := ⟨_, call_tuple_of, fun M G H xs ds Q P sr r h k => by
  match ds, h with
  | [.lst ds], h =>
    obtain ⟨v, rfl, r1⟩ := rep1 r
    cases r1 with
    | lst hx ra => exact ⟨_, _, rfl, .inl ⟨SqL.of (hide_sub hx).1, fun p n => made sr k ra n h⟩⟩
  | [.tup ds], h =>
    obtain ⟨v, rfl, r1⟩ := rep1 r
    cases r1 with
    | tup hx ra => exact ⟨_, _, rfl, .inr ⟨sqT_hide hx, here sr k (.tup hx ra) h⟩⟩
  | [.obj (.ref p)], h =>
    obtain ⟨v, rfl, r1⟩ := rep1 r
    cases r1
    obtain ⟨ds, h0, q⟩ := h
    obtain ⟨o, e1, e2⟩ := sr.sto p _ h0
    cases o with
    | lst vs => exact ⟨_, _, rfl, .inl ⟨SqL.of e1, fun p n => made sr k e2 n q⟩⟩
    | _ => exact False.elim e2⟩
def gList : GN
  | [.lst ds], G, Q => Q (.lst ds) G
  | [.tup ds], G, Q => Q (.lst ds) G
  | [.obj (.ref p)], G, Q => ∃ ds, G p = some (.lst ds) ∧ Q (.lst ds) G
  | _, _, _ => False
theorem bt_list : BltD C (.type "list") gList := ⟨_, call_list_of, fun M G H xs ds Q P sr r h k => by
  match ds, h with
  | [.lst ds], h =>
    obtain ⟨v, rfl, r1⟩ := rep1 r
    cases r1 with
    | lst hx ra => exact ⟨_, _, rfl, .inl (SqL.of (hide_sub hx).1), fun p n => madeL sr k ra n h⟩
  | [.tup ds], h =>
    obtain ⟨v, rfl, r1⟩ := rep1 r
    cases r1 with
    | tup hx ra => exact ⟨_, _, rfl, .inr (sqT_hide hx), fun p n => madeL sr k ra n h⟩
  | [.obj (.ref p)], h =>
    obtain ⟨v, rfl, r1⟩ := rep1 r
    cases r1
    obtain ⟨ds, h0, q⟩ := h
    obtain ⟨o, e1, e2⟩ := sr.sto p _ h0
    cases o with
    | lst vs => exact ⟨_, _, rfl, .inl (SqL.of e1), fun p n => madeL sr k e2 n q⟩
    | _ => exact False.elim e2⟩
/-- isinstance(x, T), T a built-in type -/
def tyN : D → Option String
  | .non => some "NoneType" | .bl _ => some "bool" | .int _ => some "int" | .str _ => some "str" | .tup _ => some "tuple" | .lst _ => some "list" | .scr _ => some "list" | .obj _ => none
def gIsi : GN
  | [d, .obj (.ty n)], G, Q => match tyN d with
    | some t => ∃ b, kitB t n = some b ∧ Q (.bl b) G
    | none => False
  | _, _, _ => False
theorem Rep.ty {K : PySem.W.Frag} {M : Hid} {G : Store} {H : Hp} {v : V} {d : D} {t : String} (r : Rep K (hide M G H) v d) (h : tyN d = some t) : TyX K H v (.type t) := by
  cases r with
  | non => cases h; exact .base .non
  | bl => cases h; exact .base (.bl _)
  | int => cases h; exact .base (.int _)
  | str => cases h; exact .base (.str _)
  | tup hx ra =>
    cases h
    rcases sqT_hide hx with (e | ⟨o, e⟩) | ⟨o, its, n, e1, e2, _⟩
    · exact .base (.tup e)
    · exact .fTuple e
    · exact .kTuple e1 e2
  | lst hx ra => cases h; exact .base (.lst (hide_sub hx).1)
  | scr hx =>
    cases h
    rcases sqL_hide hx with (e | ⟨o, e⟩) | ⟨o, its, n, e1, e2, _⟩
    · exact .base (.lst e)
    · exact .base (.frz e)
    · exact .kList e1 e2
  | obj => cases h
theorem bt_isi : BltD C (.builtin "isinstance") gIsi := ⟨_, call_isi, fun M G H xs ds Q P sr r h k => by
  match ds, h with
  | [d, .obj (.ty n)], h =>
    obtain ⟨v, w, rfl, r1, r2⟩ := rep2 r
    cases r2
    have h : (match tyN d with | some t => ∃ b, kitB t n = some b ∧ Q (.bl b) G | none => False) := h
    cases e : tyN d with
    | none => rw [e] at h; exact False.elim h
    | some t =>
      rw [e] at h
      obtain ⟨b, hb, q⟩ := h
      exact ⟨_, _, _, _, b, rfl, .ty n, r1.ty e, kit_ty hb, here sr k (.bl _) q⟩⟩
theorem pd_ty {x : Str} {n : String} (hm : C.X.mg x = none) (hv : bootBuiltins x = some (.type n)) (hg : Gl C.X x := by rfl) (hn : x ≠ "__name__" := by decide) (hd : (x == ("__debug__" : Str)) = false := by decide) : PDE C (.Name x pos) (dC (.obj (.ty n))) :=
  pd_c (pe_bltn (v := .ty n) hg hm hv rfl hn hd) fun _ => .obj _

/-! ### calls of defs -/
abbrev DSp := List D → Store → DQ → DXK → Prop
/-- a promise at the level of data, as the hand layer's -/
def spD (k : Kx) (f : DSp) : Sp := fun vs H P E => ∃ (M : Hid) (ds : List D) (G : Store) (Q : DQ) (E' : DXK), RepAll k.K (hide M G H) vs ds ∧ SRel k.K k.T M G H ∧ EW { k with W := E } M G H E' ∧ f ds G Q E' ∧
  ∀ v H' d G', Grow k M G H G' H' → Rep k.K (hide M G' H') v d → Q d G' → P v H'
/-- the module's x is a def that keeps the promise -/
def Def (P : Program) (w : World) (K : PySem.W.Frag) (mg : Str → Option Value) (base : Heap) (T : Tb) (k : Nat) (x : Str) (f : DSp) : Prop :=
  ∃ (a : Addr) (fd : FuncData) (ps : List Str), mg x = some (.ref a) ∧ PySem.W.keepIn K (.ref a) = true ∧ Binds K fd ps [] ∧ FnOk P w K mg base (L2N.CX P w) k a fd ps (spD ⟨K, mg, T, fun _ _ _ => False⟩ f)
theorem Def.mono {P : Program} {w : World} {K : PySem.W.Frag} {mg : Str → Option Value} {base : Heap} {T : Tb} {j k : Nat} {x : Str} {f : DSp} (h : Def P w K mg base T j x f) (l : j ≤ k) : Def P w K mg base T k x f := by
  obtain ⟨a, fd, ps, h1, h2, h3, h4⟩ := h
  exact ⟨a, fd, ps, h1, h2, h3, h4.mono l⟩
abbrev DefC (C : Dx) (k : Nat) (x : Str) (f : DSp) : Prop := Def C.X.prog C.X.w C.X.K C.X.mg C.X.base C.T k x f
def dCall (f : DSp) (fs : DA) : DE := fun ρ G Q E => fs ρ G (fun ds G1 => f ds G1 Q E) E
theorem tE_call {f : DSp} : ∀ σ H P, tE C.k (dCall f fs) σ H P → tCallS (spD ⟨C.X.K, C.X.mg, C.T, fun _ _ _ => False⟩ f) (fun σ => WE (fun cls d _ H => C.W cls d H) σ) (tA C.k fs) σ H P := by
  rintro σ H P ⟨M, ρ, G, Q, E, er, sr, ew, h, k⟩
  refine ⟨M, ρ, G, _, E, er, sr, ew, h, fun vs H1 ds G1 g1 r1 q1 => ?_⟩
  refine ⟨M, ds, G1, Q, E, r1, g1.s, fun n c G' H' hm g e => ew n c G' H' hm (g1.trans ⟨g.s, g.x, g.k⟩) e, q1, fun v H2 d G2 g2 r2 q2 => k v H2 d G2 (g1.trans ⟨g2.s, g2.x, g2.k⟩) r2 q2⟩
theorem pd_call {k j : Nat} {x : Str} {f : DSp} {p : Pos} (h : DefC C j x f) (hr : Room k C.X.A) (ha : PDA C (a :: es) fs) (hjk : j ≤ k := by decide) (hg : Gl C.X x := by rfl) (hdb : (x == ("__debug__" : Str)) = false := by decide)
    (he : starEach (a :: es) C.X.env = (false, eval a C.X.env) :: starEach es C.X.env := by rfl) (hpl : (backTo pos (starEach es C.X.env)).any (·.1) = false := by rfl) : PDE C (.Call (.Name x p) (a :: es) [] pos) (dCall f fs) := by
  obtain ⟨g, fd, ps, h1, h2, h3, h4⟩ := h.mono hjk
  exact peI (pe_callS h4 hr hg h1 h2 h3 (fun σ => L2N.passAt C.tk σ) ha hdb he hpl) tE_call
theorem pd_call0 {k j : Nat} {x : Str} {f : DSp} {p : Pos} (h : DefC C j x f) (hr : Room k C.X.A) (hjk : j ≤ k := by decide) (hg : Gl C.X x := by rfl) (hdb : (x == ("__debug__" : Str)) = false := by decide) : PDE C (.Call (.Name x p) [] [] pos) (dCall f dNil) := by
  obtain ⟨g, fd, ps, h1, h2, h3, h4⟩ := h.mono hjk
  have e : ∀ σ H P, tE C.k (dCall f dNil) σ H P → tCall (spD ⟨C.X.K, C.X.mg, C.T, fun _ _ _ => False⟩ f) [] C.W tNil σ H P := by
    rintro σ H P ⟨M, ρ, G, Q, E, er, sr, ew, h, k⟩
    exact ⟨M, [], G, Q, E, .nil, sr, fun n c G' H' hm g e => ew n c G' H' hm ⟨g.s, g.x, g.k⟩ e, h, fun v H2 d G2 g2 r2 q2 => k v H2 d G2 ⟨g2.s, g2.x, g2.k⟩ r2 q2⟩
  exact peI (pe_call0 h4 hr hg h1 h2 h3 .nil (L2N.passes_call C.tk fun _ _ _ _ z => z) hdb) e
end
end FD

set_option Elab.async false
set_option linter.all false
set_option maxRecDepth 100000
set_option maxHeartbeats 4000000
set_option autoImplicit false
/-! The D layer, sixth part: targets, statements, loops, comprehensions, bodies. -/
namespace FD
open PySem PySem.Spec PyProof.Rows L2
section
variable {C : Dx} {pos : Pos} {a b c e : Expr} {fa fb fc fe : DE} {es : List Expr} {fs : DA}

/-! ### targets -/
abbrev DG := D → DEnv → Store → (DEnv → Store → Prop) → DXK → Prop
abbrev DGs := List D → DEnv → Store → (DEnv → Store → Prop) → DXK → Prop
def tG (k : Kx) (g : DG) : TG := fun v σ H P => ∃ (M : Hid) (d : D) (ρ : DEnv) (G : Store) (Q : DEnv → Store → Prop) (E : DXK), Rep k.K (hide M G H) v d ∧ ERel k.K (hide M G H) ρ σ ∧ SRel k.K k.T M G H ∧ EW k M G H E ∧ g d ρ G Q E ∧
  ∀ σ' H' ρ' G', Grow k M G H G' H' → ERel k.K (hide M G' H') ρ' σ' → Q ρ' G' → P σ' H'
def tGs (k : Kx) (g : DGs) : TGs := fun vs σ H P => ∃ (M : Hid) (ds : List D) (ρ : DEnv) (G : Store) (Q : DEnv → Store → Prop) (E : DXK), RepAll k.K (hide M G H) vs ds ∧ ERel k.K (hide M G H) ρ σ ∧ SRel k.K k.T M G H ∧ EW k M G H E ∧ g ds ρ G Q E ∧
  ∀ σ' H' ρ' G', Grow k M G H G' H' → ERel k.K (hide M G' H') ρ' σ' → Q ρ' G' → P σ' H'
abbrev PDG (C : Dx) (e : Expr) (g : DG) : Prop := PG C.X e (tG C.k g)
abbrev PDGs (C : Dx) (es : List Expr) (g : DGs) : Prop := PGs C.X es (tGs C.k g)
theorem pgI {X : Cx} {e : Expr} {t t' : TG} (h : PG X e t') (i : ∀ v σ H P, t v σ H P → t' v σ H P) : PG X e t := ⟨fun pins s σ H v u Q I r w => h.run pins s σ H v u Q I r (i v σ H Q w)⟩
theorem pgsI {X : Cx} {es : List Expr} {t t' : TGs} (h : PGs X es t') (i : ∀ v σ H P, t v σ H P → t' v σ H P) : PGs X es t := ⟨fun pins s σ H v u Q I r w => h.run pins s σ H v u Q I r (i v σ H Q w)⟩
def dgName (i : Nat) : DG := fun d ρ G Q _ => Q (ρ.set i (some d)) G
theorem pdg_name {i : Nat} {x : Str} (hN : C.X.N.Nodup) (hi : C.X.N[i]? = some x := by rfl) (hx : Loc C.X.env.scope x := by first | exact Or.inl rfl | exact Or.inr rfl) (hf : C.X.fn x = true ∨ C.X.env.scope.names.lookup x = some .local := by first | exact .inl rfl | exact .inr rfl) : PDG C (.Name x pos) (dgName i) := by
  refine pgI (pg_name hN hi hx hf) ?_
  rintro v σ H P ⟨M, d, ρ, G, Q, E, r, er, sr, ew, h, k⟩
  exact k _ _ _ _ (Grow.refl sr) (er.set r) h
def dgNil : DGs := fun ds ρ G Q _ => match ds with
  | [] => Q ρ G
  | _ => False
def dgCons (g : DG) (gs : DGs) : DGs := fun ds ρ G Q E => match ds with
  | d :: ds => g d ρ G (fun ρ' G' => gs ds ρ' G' Q E) E
  | _ => False
variable {g : DG} {gs : DGs} {ts : List Expr} {t : Expr}
theorem pdgs_nil : PDGs C [] dgNil := by
  refine pgsI pgs_nil ?_
  rintro vs σ H P ⟨M, ds, ρ, G, Q, E, r, er, sr, ew, h, k⟩
  cases r with
  | nil => exact ⟨rfl, k _ _ _ _ (Grow.refl sr) er h⟩
  | cons _ _ => exact False.elim h
theorem pdgs_cons (h1 : PDG C t g) (h2 : PDGs C ts gs) (hs : (assignEach (t :: ts) C.X.env).map (·.2) = assign t C.X.env :: (assignEach ts C.X.env).map (·.2) := by rfl) : PDGs C (t :: ts) (dgCons g gs) := by
  refine pgsI (pgs_cons h1 h2 hs) ?_
  rintro vs σ H P ⟨M, ds, ρ, G, Q, E, r, er, sr, ew, h, k⟩
  cases r with
  | nil => exact False.elim h
  | cons r1 r2 =>
    refine ⟨_, _, rfl, M, _, ρ, G, _, E, r1, er, sr, ew, h, fun σ' H' ρ' G' g' er' q => ?_⟩
    exact ⟨M, _, ρ', G', _, E, RepAll.mono g'.x _ _ r2, er', g'.s, ew.on g', q, fun σ2 H2 ρ2 G2 g2 er2 q2 => k _ _ _ _ (g'.trans g2) er2 q2⟩
def dgTup (gs : DGs) : DG := fun d ρ G Q E => match d with
  | .tup ds => gs ds ρ G Q E
  | _ => False
/-- a, b, .. = a tuple; n: how many -/
def dgTupN (n : Nat) (gs : DGs) : DG := fun d ρ G Q E => match d with
  | .tup ds => ds.length = n ∧ gs ds ρ G Q E
  | _ => False
theorem pdg_tup {k : Nat} {n : Nat} (hc : C.X.calm = true) (h : PDGs C ts gs) (hn : (assignEach ts C.X.env).length = n := by rfl) (hst : (assignEach ts C.X.env).findIdx? (·.1) = none := by rfl) : PDG C (.Tuple ts k pos) (dgTupN n gs) := by
  refine pgI (pg_tup (n := n) hc h hn hst) ?_
  rintro v σ H P ⟨M, d, ρ, G, Q, E, r, er, sr, ew, h, k⟩
  cases r with
  | tup hx ra => exact ⟨_, _, rfl, sqT_hide hx, by rw [ra.length]; exact h.1, M, _, ρ, G, _, E, ra, er, sr, ew, h.2, k⟩
  | _ => exact False.elim h
/-- o[i] = .. of a list in the store -/
def dgSubL (fo fi : DE) : DG := fun d ρ G Q E => fo ρ G (fun o G1 => fi ρ G1 (fun i G2 => match o, i with
  | .obj (.ref p), .int k => ∃ ds j, G2 p = some (.lst ds) ∧ ixN ds.length k = some j ∧ Q ρ (put G2 p (.lst (ds.set j d)))
  | _, _ => False) E) E
theorem pdg_subL {o i : Expr} {fo fi : DE} (ho : PDE C o fo) (hi : PDE C i fi) (ha : ∀ v, assign (.Subscript o i pos) C.X.env v = (do
      let ov ← holding [v] (eval o C.X.env)
      let iv ← holding [v, ov] (eval i C.X.env)
      standAt pos
      holding [v, ov, iv] (setItem ov iv v)
      release [v, ov, iv] []) := by intro _; rfl) : PDG C (.Subscript o i pos) (dgSubL fo fi) := by
  refine pgI (pg_sub ho hi set_list ha) ?_
  rintro v σ H P ⟨M, d, ρ, G, Q, E, r, er, sr, ew, h, k⟩
  refine ⟨M, ρ, G, _, E, er, sr, ew, h, fun v1 H1 d1 G1 g1 r1 q1 => ?_⟩
  refine ⟨M, ρ, G1, _, E, er.mono g1.x, g1.s, ew.on g1, q1, fun v2 H2 d2 G2 g2 r2 q2 => ?_⟩
  cases d1 with
  | obj v1' =>
    cases r1
    cases v1 with
    | ref p =>
      cases d2 with
      | int i =>
        cases r2
        obtain ⟨ds, j, h0, h1, q⟩ := q2
        obtain ⟨o, e1, e2⟩ := g2.s.sto p _ h0
        cases o with
        | lst vs =>
          have ra : RepAll C.X.K (hide M G2 H2) vs ds := e2
          have g := g1.trans g2
          refine ⟨p, vs, i, j, rfl, rfl, e1, by rw [ra.length]; exact h1, ?_⟩
          have gw := Grow.wr (C := C.k) (m := .lst (ds.set j d)) (o := .lst (vs.set j v)) g2.s h0 (RepAll.set (r.mono g.x) j ra)
          exact k _ _ _ _ (g.trans gw) ((er.mono g.x).mono gw.x) q
        | _ => exact False.elim e2
      | _ => exact False.elim q2
    | _ => exact False.elim q2
  | _ => exact False.elim q2

/-! ### statements -/
variable {st : Stmt} {rest sts : List Stmt} {f f2 : DS} {q : DT}
def dSeq (f f2 : DS) : DS := fun B ρ G => f { B with nx := f2 B } ρ G
def dNext : DS := fun B ρ G => B.nx ρ G
theorem pds_nil : PDSs C [] dNext := by
  refine pssI pss_nil ?_
  rintro A σ H ⟨M, ρ, G, B, er, sr, ew, h, kn, kr, kb, kc⟩
  exact kn _ _ _ _ (Grow.refl sr) er h
theorem pds_cons (h1 : PDS C st f) (h2 : PDSs C rest f2) : PDSs C (st :: rest) (dSeq f f2) := by
  refine pssI (pss_cons h1 h2) ?_
  rintro A σ H ⟨M, ρ, G, B, er, sr, ew, h, kn, kr, kb, kc⟩
  refine ⟨M, ρ, G, { B with nx := f2 B }, er, sr, ew, h, fun ρ' σ' G' H' g er' q => ?_, kr, kb, kc⟩
  exact ⟨M, ρ', G', B, er', g.s, ew.on g, q, fun ρ2 σ2 G2 H2 g2 => kn ρ2 σ2 G2 H2 (g.trans g2), fun v H2 d G2 g2 => kr v H2 d G2 (g.trans g2), fun ρ2 σ2 G2 H2 g2 => kb ρ2 σ2 G2 H2 (g.trans g2), fun ρ2 σ2 G2 H2 g2 => kc ρ2 σ2 G2 H2 (g.trans g2)⟩
theorem pds_one (h : PDS C st f) : PDSs C [st] f := pss_one h
/-- code that is never come to -/
def dNever : DS := fun _ _ _ => False
theorem pds_never : PDS C st dNever := psI ps_never (fun A σ H ⟨_, _, _, _, _, _, _, h, _⟩ => h)
theorem pdss_never : PDSs C sts dNever := pssI pss_never (fun A σ H ⟨_, _, _, _, _, _, _, h, _⟩ => h)
def dPass : DS := fun B ρ G => B.nx ρ G
def dDrop (fe : DE) : DS := fun B ρ G => fe ρ G (fun _ G1 => B.nx ρ G1) B.er
theorem pds_expr (he : PDE C e fe) (hs : swapsWith e none pos.line C.X.env = pure false := by rfl) : PDS C (.Expr e pos) (dDrop fe) := by
  refine psI (ps_expr he hs) ?_
  rintro A σ H ⟨M, ρ, G, B, er, sr, ew, h, kn, kr, kb, kc⟩
  exact ⟨M, ρ, G, _, _, er, sr, ew, h, fun v H1 d G1 g1 r1 q1 => kn _ _ _ _ g1 (er.mono g1.x) q1⟩
def dRet (fe : DE) : DS := fun B ρ G => fe ρ G B.rt B.er
theorem pds_ret (he : PDE C e fe) : PDS C (.Return (some e) pos) (dRet fe) := by
  refine psI (ps_ret he) ?_
  rintro A σ H ⟨M, ρ, G, B, er, sr, ew, h, kn, kr, kb, kc⟩
  exact ⟨M, ρ, G, _, _, er, sr, ew, h, fun v H1 d G1 g1 r1 q1 => kr v H1 d G1 g1 r1 q1⟩
def dIfS (q : DT) (f f2 : DS) : DS := fun B ρ G => q ρ G (fun t G1 => match t with
  | true => f B ρ G1
  | false => f2 B ρ G1) B.er
theorem pds_if {sa sb : List Stmt} (hc : PDT C c q) (h1 : PDSs C sa f) (h2 : PDSs C sb f2) : PDS C (.If c sa sb pos) (dIfS q f f2) := by
  refine psI (ps_if hc h1 h2) ?_
  rintro A σ H ⟨M, ρ, G, B, er, sr, ew, h, kn, kr, kb, kc⟩
  refine ⟨M, ρ, G, _, _, er, sr, ew, h, fun t H1 G1 g1 q1 => ?_⟩
  have m : ∀ f : DS, f B ρ G1 → tS C.k f A σ H1 := fun f q => ⟨M, ρ, G1, B, er.mono g1.x, g1.s, ew.on g1, q, fun ρ2 σ2 G2 H2 g2 => kn ρ2 σ2 G2 H2 (g1.trans g2), fun v H2 d G2 g2 => kr v H2 d G2 (g1.trans g2), fun ρ2 σ2 G2 H2 g2 => kb ρ2 σ2 G2 H2 (g1.trans g2), fun ρ2 σ2 G2 H2 g2 => kc ρ2 σ2 G2 H2 (g1.trans g2)⟩
  cases t with
  | true => exact m f q1
  | false => exact m f2 q1
def dAsg (fe : DE) (g : DG) : DS := fun B ρ G => fe ρ G (fun d G1 => g d ρ G1 B.nx B.er) B.er
theorem tS_asg : ∀ A σ H, tS C.k (dAsg fe g) A σ H → tAsg (tE C.k fe) (tG C.k g) A σ H := by
  rintro A σ H ⟨M, ρ, G, B, er, sr, ew, h, kn, kr, kb, kc⟩
  refine ⟨M, ρ, G, _, _, er, sr, ew, h, fun v H1 d G1 g1 r1 q1 => ?_⟩
  exact ⟨M, d, ρ, G1, _, B.er, r1, er.mono g1.x, g1.s, ew.on g1, q1, fun σ2 H2 ρ2 G2 g2 er2 q2 => kn ρ2 σ2 G2 H2 (g1.trans g2) er2 q2⟩
theorem pds_asg (he : PDE C e fe) (hg : PDG C t g) (hs : swapsWithSole [t] e pos.line C.X.env = pure false := by rfl) (hw : swappedStores [t] e C.X.env = pure none := by rfl)
    (h1 : (assignEach [t] C.X.env).map (·.2) = [assign t C.X.env] := by rfl) : PDS C (.Assign [t] e pos) (dAsg fe g) := psI (ps_asg he hg hs hw h1) tS_asg
theorem pds_set {i : Nat} {x : Str} {pos' : Pos} (hN : C.X.N.Nodup) (he : PDE C e fe) (hi : C.X.N[i]? = some x := by rfl) (hx : Loc C.X.env.scope x := by first | exact Or.inl rfl | exact Or.inr rfl) (hs : swapsWith e (some (.Name x pos')) pos.line C.X.env = pure false := by rfl) (hf : C.X.fn x = true ∨ C.X.env.scope.names.lookup x = some .local := by first | exact .inl rfl | exact .inr rfl) :
    PDS C (.Assign [.Name x pos'] e pos) (dAsg fe (dgName i)) := by
  refine psI (ps_set (i := i) hN hi hx he hs hf) ?_
  rintro A σ H ⟨M, ρ, G, B, er, sr, ew, h, kn, kr, kb, kc⟩
  exact ⟨M, ρ, G, _, _, er, sr, ew, h, fun v H1 d G1 g1 r1 q1 => kn _ _ _ _ g1 ((er.mono g1.x).set r1) q1⟩
/-- a, b = x, y: two plain local names -/
def dPar (i j : Nat) (fs : DA) : DS := fun B ρ G => fs ρ G (fun ds G1 => match ds with
  | [d, e] => B.nx ((ρ.set i (some d)).set j (some e)) G1
  | _ => False) B.er
theorem pds_par {i j : Nat} {x y : Str} {px py pt : Pos} {kt k2 : Nat} {pt2 : Pos} (hc : C.X.calm = true) (hN : C.X.N.Nodup) (ha : PDA C [a, b] fs) (hi : C.X.N[i]? = some x := by rfl) (hj : C.X.N[j]? = some y := by rfl) (hij : i ≠ j := by decide)
    (hx : C.X.env.scope.names.lookup x = some .local := by rfl) (hy : C.X.env.scope.names.lookup y = some .local := by rfl)
    (hw : swappedStores [.Tuple [.Name x px, .Name y py] kt pt] (.Tuple [a, b] k2 pt2) C.X.env = pure (some [x, y]) := by rfl)
    (hs : swapsWithSole [.Tuple [.Name x px, .Name y py] kt pt] (.Tuple [a, b] k2 pt2) pos.line C.X.env = pure false := by rfl) :
    PDS C (.Assign [.Tuple [.Name x px, .Name y py] kt pt] (.Tuple [a, b] k2 pt2) pos) (dPar i j fs) := by
  refine psI (ps_par hc hN hi hj hij hx hy ha hw hs) ?_
  rintro A σ H ⟨M, ρ, G, B, er, sr, ew, h, kn, kr, kb, kc⟩
  refine ⟨M, ρ, G, _, _, er, sr, ew, h, fun vs H1 ds G1 g1 r1 q1 => ?_⟩
  match ds, q1 with
  | [d, e], q1 =>
    obtain ⟨v, w, rfl, r2, r3⟩ := rep2 r1
    exact ⟨v, w, rfl, kn _ _ _ _ g1 (((er.mono g1.x).set r2).set r3) q1⟩
/-- a list of the store becomes data, slot i holds it -/
def dFreeze (i : Nat) (f : DS) : DS := fun B ρ G => ∃ p ds, ρ[i]? = some (some (.obj (.ref p))) ∧ G p = some (.lst ds) ∧ f B (ρ.set i (some (.lst ds))) (era G p)
theorem pds_freeze (i : Nat) (h : PDSs C sts f) : PDSs C sts (dFreeze i f) := by
  refine pssI h ?_
  rintro A σ H ⟨M, ρ, G, B, er, sr, ew, ⟨p, ds, h1, h2, h⟩, kn, kr, kb, kc⟩
  have g : Grow C.k M G H (era G p) H := Grow.era sr
  obtain ⟨v, hv, r⟩ := er.at_ i _ h1
  cases r
  have er' : ERel C.X.K (hide M (era G p) H) (ρ.set i (some (.lst ds))) σ := by
    have := ((er.mono g.x).set (i := i) (sr.freeze h2))
    have e : σ.set i (some (.ref p)) = σ := by
      apply List.ext_getElem?
      intro j
      by_cases hj : j = i
      · subst hj
        rw [List.getElem?_set_self (List.getElem?_eq_some_iff.mp hv).1, hv]
      · rw [List.getElem?_set_ne (Ne.symm hj)]
    rwa [e] at this
  exact ⟨M, _, _, B, er', g.s, ew.on g, h, fun ρ2 σ2 G2 H2 g2 => kn ρ2 σ2 G2 H2 (g.trans g2), fun v H2 d G2 g2 => kr v H2 d G2 (g.trans g2), fun ρ2 σ2 G2 H2 g2 => kb ρ2 σ2 G2 H2 (g.trans g2), fun ρ2 σ2 G2 H2 g2 => kc ρ2 σ2 G2 H2 (g.trans g2)⟩

/-! ### loops -/
def whileN (q : DT) (f : DS) (B : DEnds) : Nat → DEnv → Store → Prop
  | 0, _, _ => False
  | n + 1, ρ, G => q ρ G (fun t G1 => match t with
    | true => f { B with nx := whileN q f B n, ct := whileN q f B n, bk := B.nx } ρ G1
    | false => B.nx ρ G1) B.er
def dWhile (q : DT) (f : DS) : DS := fun B ρ G => ∃ n, whileN q f B n ρ G
theorem pds_while (hc : PDT C c q) (hb : PDSs C sts f) : PDS C (.While c sts [] pos) (dWhile q f) := by
  refine psI (ps_while C.po hc hb) ?_
  rintro A σ H ⟨M, ρ, G, B, er, sr, ew, ⟨n, h⟩, kn, kr, kb, kc⟩
  refine ⟨fun m σ' H' => ∃ ρ' G', Grow C.k M G H G' H' ∧ ERel C.X.K (hide M G' H') ρ' σ' ∧ whileN q f B m ρ' G', ⟨n, ρ, G, Grow.refl sr, er, h⟩, ?_⟩
  rintro m σ1 H1 ⟨ρ1, G1, g1, er1, h1⟩
  cases m with
  | zero => exact False.elim h1
  | succ m =>
    refine ⟨M, ρ1, G1, _, _, er1, g1.s, ew.on g1, h1, fun t H2 G2 g2 q2 => ?_⟩
    have g := g1.trans g2
    cases t with
    | true =>
      refine iteT ?_
      refine ⟨fun σ' H' => ∃ ρ' G', Grow C.k M G H G' H' ∧ ERel C.X.K (hide M G' H') ρ' σ' ∧ whileN q f B m ρ' G', fun σ' H' w => ⟨m, Nat.lt_succ_self m, w⟩, ?_⟩
      refine ⟨M, ρ1, G2, { B with nx := whileN q f B m, ct := whileN q f B m, bk := B.nx }, er1.mono g2.x, g.s, ew.on g, q2, ?_, fun v H3 d G3 g3 => kr v H3 d G3 (g.trans g3), fun ρ3 σ3 G3 H3 g3 => kn ρ3 σ3 G3 H3 (g.trans g3), ?_⟩
      · exact fun ρ3 σ3 G3 H3 g3 er3 q3 => ⟨ρ3, G3, g.trans g3, er3, q3⟩
      · exact fun ρ3 σ3 G3 H3 g3 er3 q3 => ⟨ρ3, G3, g.trans g3, er3, q3⟩
    | false =>
      refine iteF ?_
      exact kn _ _ _ _ g (er1.mono g2.x) q2

/-- what an iterator yields: the items ds, as long as what is tracked stands -/
structure Walks (k : Kx) (Hv : Hp) (J : It) (ds : List D) : Prop where
  go : ∀ (i : Nat) (M : Hid) (G : Store) (H : Hp), SRel k.K k.T M G H → Ext Hv (hide M G H) → i < ds.length → J.go i H
  stop : ∀ (M : Hid) (G : Store) (H : Hp), SRel k.K k.T M G H → Ext Hv (hide M G H) → J.stop ds.length H
  yld : ∀ (i : Nat) (M : Hid) (G : Store) (H : Hp) (x : V) (H' : Hp), SRel k.K k.T M G H → Ext Hv (hide M G H) → i < ds.length → J.yld i H x H' → ∃ d, ds[i]? = some d ∧ Grow k M G H G H' ∧ Rep k.K (hide M G H') x d
def tI (k : Kx) (f : DA) : TI := fun σ H R => ∃ (M : Hid) (ρ : DEnv) (G : Store) (Q : List D → Store → Prop) (E : DXK), ERel k.K (hide M G H) ρ σ ∧ SRel k.K k.T M G H ∧ EW k M G H E ∧ f ρ G Q E ∧
  ∀ J H' ds G', Grow k M G H G' H' → Walks k (hide M G' H') J ds → Q ds G' → R J H'
abbrev PDI (C : Dx) (tg iter : Expr) (f : DA) : Prop := PI C.X tg iter (tI C.k f)
theorem piI {X : Cx} {tg e : Expr} {t t' : TI} (h : PI X tg e t') (i : ∀ σ H P, t σ H P → t' σ H P) : PI X tg e t := ⟨fun pins s σ H Q I w => h.run pins s σ H Q I (i σ H Q w)⟩
def forL (g : DG) (f : DS) (B : DEnds) : List D → DEnv → Store → Prop
  | [], ρ, G => B.nx ρ G
  | d :: ds, ρ, G => g d ρ G (fun ρ' G' => f { B with nx := forL g f B ds, ct := forL g f B ds, bk := B.nx } ρ' G') B.er
def dFor (fi : DA) (g : DG) (f : DS) : DS := fun B ρ G => fi ρ G (fun ds G1 => forL g f B ds ρ G1) B.er
theorem pds_for {tg iter : Expr} {fi : DA} (hc : C.X.calm = true) (hi : PDI C tg iter fi) (hg : PDG C tg g) (hb : PDSs C sts f) (hs : ∀ x, foldedSetIterable iter C.X.env x = pure x := by intro _; rfl) : PDS C (.For tg iter sts [] pos) (dFor fi g f) := by
  refine psI (ps_for C.po hc hi hg hb hs) ?_
  rintro A σ H ⟨M, ρ, G, B, er, sr, ew, h, kn, kr, kb, kc⟩
  refine ⟨M, ρ, G, _, _, er, sr, ew, h, fun J H1 ds G1 g1 w q1 => ?_⟩
  refine ⟨fun i m σ' H' => m = ds.length - i ∧ i ≤ ds.length ∧ ∃ ρ' G', Grow C.k M G1 H1 G' H' ∧ ERel C.X.K (hide M G' H') ρ' σ' ∧ forL g f B (ds.drop i) ρ' G', ⟨ds.length, rfl, Nat.zero_le _, ρ, G1, Grow.refl g1.s, er.mono g1.x, q1⟩, ?_⟩
  rintro i m σ2 H2 ⟨rfl, hi, ρ2, G2, g2, er2, q2⟩
  have gg := g1.trans g2
  by_cases hlt : i < ds.length
  · refine .inr ⟨w.go i M G2 H2 g2.s g2.x hlt, fun σ' H' => i + 1 ≤ ds.length ∧ ∃ ρ' G', Grow C.k M G1 H1 G' H' ∧ ERel C.X.K (hide M G' H') ρ' σ' ∧ forL g f B (ds.drop (i + 1)) ρ' G', fun σ' H' n => ⟨ds.length - (i + 1), by omega, rfl, n.1, n.2⟩, fun x H3 y => ?_⟩
    obtain ⟨d, hd, g3, r3⟩ := w.yld i M G2 H2 x H3 g2.s g2.x hlt y
    have e : ds.drop i = d :: ds.drop (i + 1) := by
      rw [List.drop_eq_getElem_cons hlt]
      have e2 : ds[i] = d := Option.some.inj ((List.getElem?_eq_getElem hlt).symm.trans hd)
      rw [e2]
    rw [e] at q2
    refine ⟨M, d, ρ2, G2, _, B.er, r3, er2.mono g3.x, g3.s, ew.on (gg.trans g3), q2, fun σ4 H4 ρ4 G4 g4 er4 q4 => ?_⟩
    have g5 := (gg.trans g3).trans g4
    refine ⟨M, ρ4, G4, { B with nx := forL g f B (ds.drop (i + 1)), ct := forL g f B (ds.drop (i + 1)), bk := B.nx }, er4, g4.s, ew.on g5, q4, ?_, fun v H6 d G6 g6 => kr v H6 d G6 (g5.trans g6), fun ρ6 σ6 G6 H6 g6 => kn ρ6 σ6 G6 H6 (g5.trans g6), ?_⟩
    · exact fun ρ6 σ6 G6 H6 g6 er6 q6 => ⟨hlt, ρ6, G6, ((g2.trans g3).trans g4).trans g6, er6, q6⟩
    · exact fun ρ6 σ6 G6 H6 g6 er6 q6 => ⟨hlt, ρ6, G6, ((g2.trans g3).trans g4).trans g6, er6, q6⟩
  · have e : i = ds.length := by omega
    subst e
    rw [List.drop_length] at q2
    exact .inl ⟨w.stop M G2 H2 g2.s g2.x, kn _ _ _ _ gg er2 q2⟩
end
end FD

set_option Elab.async false
set_option linter.all false
set_option maxRecDepth 100000
set_option maxHeartbeats 4000000
set_option autoImplicit false
/-! The D layer, seventh part: what is walked, comprehensions, bodies of defs, raise, methods. -/
namespace FD
open PySem PySem.Spec PyProof.Rows L2
section
variable {C : Dx} {pos : Pos} {a b c e : Expr} {fa fb fc fe : DE} {es : List Expr} {fs fi : DA} {tg : Expr}

/-! ### what is walked -/
theorem drop_walk {α : Type} {l : List α} {i : Nat} : l[i]? = none ↔ l.length ≤ i := List.getElem?_eq_none_iff
theorem walks_L {k : Kx} {Hv : Hp} {p : Addr} {vs : List V} {ds : List D} (h : Hv p = some (.lst vs)) (r : RepAll k.K Hv vs ds) : Walks k Hv (Itl k.K p) ds where
  go := fun i M G H s x hi => by
    have hs : H p = some (.lst vs) := (hide_sub (x _ _ h (fun ps z => by cases z))).1
    obtain ⟨v, hv, _⟩ := r.get (i := i) (d := ds[i]) (List.getElem?_eq_getElem hi)
    exact ⟨vs, v, SqL.of hs, hv⟩
  stop := fun M G H s x => by
    have hs : H p = some (.lst vs) := (hide_sub (x _ _ h (fun ps z => by cases z))).1
    exact ⟨vs, SqL.of hs, by rw [r.length]; exact Nat.le_refl _⟩
  yld := fun i M G H v H' s x hi y => by
    obtain ⟨e, y⟩ := y
    subst e
    have hs : H' p = some (.lst vs) := (hide_sub (x _ _ h (fun ps z => by cases z))).1
    obtain ⟨d, hd, rd⟩ := r.getV (y vs (SqL.of hs))
    exact ⟨d, hd, Grow.refl s, rd.mono x⟩
theorem walks_T {k : Kx} {Hv : Hp} {p : Addr} {vs : List V} {ds : List D} (h : SqT k.K Hv p vs) (r : RepAll k.K Hv vs ds) : Walks k Hv (Itt k.K p) ds where
  go := fun i M G H s x hi => by
    obtain ⟨v, hv, _⟩ := r.get (i := i) (d := ds[i]) (List.getElem?_eq_getElem hi)
    exact ⟨vs, v, sqT_hide (x.rdT h), hv⟩
  stop := fun M G H s x => ⟨vs, sqT_hide (x.rdT h), by rw [r.length]; exact Nat.le_refl _⟩
  yld := fun i M G H v H' s x hi y => by
    obtain ⟨e, y⟩ := y
    subst e
    obtain ⟨d, hd, rd⟩ := r.getV (y vs (sqT_hide (x.rdT h)))
    exact ⟨d, hd, Grow.refl s, rd.mono x⟩
/-- over a list -/
def dItL (fe : DE) : DA := fun ρ G Q E => fe ρ G (fun d G1 => match d with
  | .lst ds => Q ds G1
  | _ => False) E
def dItT (fe : DE) : DA := fun ρ G Q E => fe ρ G (fun d G1 => match d with
  | .tup ds => Q ds G1
  | _ => False) E
theorem pdi_list (he : PDE C e fe) : PDI C tg e (dItL fe) := by
  refine piI (pi_list he) ?_
  rintro σ H P ⟨M, ρ, G, Q, E, er, sr, ew, h, k⟩
  refine ⟨M, ρ, G, _, E, er, sr, ew, h, fun v H1 d G1 g1 r1 q1 => ?_⟩
  cases r1 with
  | lst hx ra => exact ⟨_, rfl, ⟨_, SqL.of (hide_sub hx).1⟩, k _ _ _ _ g1 (walks_L hx ra) q1⟩
  | _ => exact False.elim q1
theorem pdi_tup (he : PDE C e fe) : PDI C tg e (dItT fe) := by
  refine piI (pi_tup he) ?_
  rintro σ H P ⟨M, ρ, G, Q, E, er, sr, ew, h, k⟩
  refine ⟨M, ρ, G, _, E, er, sr, ew, h, fun v H1 d G1 g1 r1 q1 => ?_⟩
  cases r1 with
  | tup hx ra => exact ⟨_, rfl, ⟨_, sqT_hide hx⟩, k _ _ _ _ g1 (walks_T hx ra) q1⟩
  | _ => exact False.elim q1
/-- lo, lo + 1, .. -/
def upto (lo : Int) (n : Nat) : List D := (List.range n).map fun (i : Nat) => D.int (lo + (i : Int))
theorem upto_len (lo : Int) (n : Nat) : (upto lo n).length = n := by unfold upto; rw [List.length_map, List.length_range]
theorem walks_R {k : Kx} {Hv : Hp} (lo : Int) (n : Nat) : Walks k Hv (Itr lo n) (upto lo n) where
  go := fun i M G H s x hi => by rw [upto_len] at hi; exact hi
  stop := fun M G H s x => by rw [upto_len]; exact Nat.le_refl _
  yld := fun i M G H v H' s x hi y => by
    obtain ⟨e, y⟩ := y
    subst e y
    rw [upto_len] at hi
    refine ⟨.int (lo + i), ?_, Grow.refl s, .int _⟩
    unfold upto
    rw [List.getElem?_map, List.getElem?_range hi]
    rfl
def dItR1 (fs : DA) : DA := fun ρ G Q E => fs ρ G (fun ds G1 => match ds with
  | [.int j] => (-(2 ^ 62) ≤ j ∧ j < 2 ^ 62) ∧ Q (upto 0 j.toNat) G1
  | _ => False) E
def dItR2 (fs : DA) : DA := fun ρ G Q E => fs ρ G (fun ds G1 => match ds with
  | [.int i, .int j] => (-(2 ^ 62) ≤ i ∧ i < 2 ^ 62 ∧ -(2 ^ 62) ≤ j ∧ j < 2 ^ 62) ∧ Q (upto i (j - i).toNat) G1
  | _ => False) E
theorem pdi_range1 {p : Pos} (hm : C.X.mg "range" = none) (ha : PDA C [a] fs) (hg : Gl C.X "range" := by rfl) (hs : starEach [a] C.X.env = [(false, eval a C.X.env)] := by rfl) : PDI C tg (.Call (.Name "range" p) [a] [] pos) (dItR1 fs) := by
  refine piI (pi_range1 hg hm ha hs) ?_
  rintro σ H P ⟨M, ρ, G, Q, E, er, sr, ew, h, k⟩
  refine ⟨M, ρ, G, _, E, er, sr, ew, h, fun vs H1 ds G1 g1 r1 q1 => ?_⟩
  match ds, q1 with
  | [.int j], q1 =>
    obtain ⟨v, rfl, r2⟩ := rep1 r1
    cases r2
    exact ⟨j, rfl, q1.1.1, q1.1.2, k _ _ _ _ g1 (walks_R _ _) q1.2⟩
theorem pdi_range2 {p : Pos} (hm : C.X.mg "range" = none) (ha : PDA C [a, b] fs) (hg : Gl C.X "range" := by rfl) (hs : starEach [a, b] C.X.env = [(false, eval a C.X.env), (false, eval b C.X.env)] := by rfl) (hs2 : starEach [b] C.X.env = [(false, eval b C.X.env)] := by rfl) :
    PDI C tg (.Call (.Name "range" p) [a, b] [] pos) (dItR2 fs) := by
  refine piI (pi_range2 hg hm ha hs hs2) ?_
  rintro σ H P ⟨M, ρ, G, Q, E, er, sr, ew, h, k⟩
  refine ⟨M, ρ, G, _, E, er, sr, ew, h, fun vs H1 ds G1 g1 r1 q1 => ?_⟩
  match ds, q1 with
  | [.int i, .int j], q1 =>
    obtain ⟨v, w, rfl, r2, r3⟩ := rep2 r1
    cases r2; cases r3
    exact ⟨i, j, rfl, q1.1, k _ _ _ _ g1 (walks_R _ _) q1.2⟩
/-- the signs of a text -/
def signs (z : Str) : List D := z.cps.toList.map fun c => D.str ⟨#[c]⟩
theorem walks_S {k : Kx} {Hv : Hp} (z : Str) : Walks k Hv (Its z) (signs z) where
  go := fun i M G H s x hi => by
    unfold signs at hi
    rw [List.length_map, Array.length_toList] at hi
    exact hi
  stop := fun M G H s x => by
    unfold signs
    rw [List.length_map, Array.length_toList]
    exact Nat.le_refl _
  yld := fun i M G H v H' s x hi y => by
    obtain ⟨e, c, hc, y⟩ := y
    subst e y
    refine ⟨.str ⟨#[c]⟩, ?_, Grow.refl s, .str _⟩
    unfold signs
    rw [List.getElem?_map, Array.getElem?_toList, hc]
    rfl
def dItS (fe : DE) : DA := fun ρ G Q E => fe ρ G (fun d G1 => match d with
  | .str z => Q (signs z) G1
  | _ => False) E
theorem pdi_str (he : PDE C e fe) : PDI C tg e (dItS fe) := by
  refine piI (pi_str he) ?_
  rintro σ H P ⟨M, ρ, G, Q, E, er, sr, ew, h, k⟩
  refine ⟨M, ρ, G, _, E, er, sr, ew, h, fun v H1 d G1 g1 r1 q1 => ?_⟩
  cases r1 with
  | str z => exact ⟨z, rfl, k _ _ _ _ g1 (walks_S z) q1⟩
  | _ => exact False.elim q1
/-- pairs of two lists -/
def zips : List D → List D → List D
  | x :: xs, y :: ys => .tup [x, y] :: zips xs ys
  | _, _ => []
theorem zips_get : ∀ {xs ys : List D} {i : Nat} {x y : D}, xs[i]? = some x → ys[i]? = some y → (zips xs ys)[i]? = some (.tup [x, y])
  | [], _, _, _, _, h, _ => by simp at h
  | _ :: _, [], _, _, _, _, h => by simp at h
  | x :: xs, y :: ys, 0, _, _, h, h' => by
    cases (show some x = _ from h); cases (show some y = _ from h'); rfl
  | x :: xs, y :: ys, i + 1, _, _, h, h' => zips_get (i := i) (xs := xs) (ys := ys) h h'
theorem zips_len : ∀ (xs ys : List D), (zips xs ys).length = min xs.length ys.length
  | [], _ => by simp [zips]
  | _ :: _, [] => by simp [zips]
  | x :: xs, y :: ys => by
    show (zips xs ys).length + 1 = min (xs.length + 1) (ys.length + 1)
    rw [zips_len xs ys]; omega
theorem walks_Z {k : Kx} {Hv : Hp} {p q : Addr} {vs ws : List V} {xs ys : List D} (h : Hv p = some (.lst vs)) (r : RepAll k.K Hv vs xs) (h' : Hv q = some (.lst ws)) (r' : RepAll k.K Hv ws ys) : Walks k Hv (Itz k.K p q) (zips xs ys) := by
  have at1 : ∀ {M : Hid} {G : Store} {H : Hp}, Ext Hv (hide M G H) → SqL k.K H p vs := fun x => SqL.of (hide_sub (x _ _ h (fun ps z => by cases z))).1
  have at2 : ∀ {M : Hid} {G : Store} {H : Hp}, Ext Hv (hide M G H) → SqL k.K H q ws := fun x => SqL.of (hide_sub (x _ _ h' (fun ps z => by cases z))).1
  refine ⟨fun i M G H s x hi => ?_, fun M G H s x => ?_, fun i M G H v H' s x hi y => ?_⟩
  · rw [zips_len] at hi
    obtain ⟨v, hv, _⟩ := r.get (i := i) (d := xs[i]'(by omega)) (List.getElem?_eq_getElem (by omega))
    obtain ⟨w, hw, _⟩ := r'.get (i := i) (d := ys[i]'(by omega)) (List.getElem?_eq_getElem (by omega))
    exact ⟨vs, ws, v, w, at1 x, at2 x, hv, hw⟩
  · rw [zips_len]
    refine ⟨vs, ws, at1 x, at2 x, ?_⟩
    rw [r.length, r'.length]; omega
  · obtain ⟨T, x1, y1, rfl, nT, rfl, f1, f2⟩ := y
    obtain ⟨d, hd, rd⟩ := r.getV (f1 vs (at1 x))
    obtain ⟨e, he, re⟩ := r'.getV (f2 ws (at2 x))
    refine ⟨.tup [d, e], zips_get hd he, Grow.new s nT, .tup (SqT.of (hide_newAt s nT)) ?_⟩
    have x2 := (Grow.new (C := k) (o := .tup [x1, y1]) s nT).x
    exact .cons ((rd.mono x).mono x2) (.cons ((re.mono x).mono x2) .nil)
def dItZ (fs : DA) : DA := fun ρ G Q E => fs ρ G (fun ds G1 => match ds with
  | [.lst xs, .lst ys] => Q (zips xs ys) G1
  | _ => False) E
theorem tI_zip : ∀ σ H P, tI C.k (dItZ fs) σ H P → iZip C.X.K (tA C.k fs) σ H P := by
  rintro σ H P ⟨M, ρ, G, Q, E, er, sr, ew, h, k⟩
  refine ⟨M, ρ, G, _, E, er, sr, ew, h, fun vs H1 ds G1 g1 r1 q1 => ?_⟩
  match ds, q1 with
  | [.lst xs, .lst ys], q1 =>
    obtain ⟨v, w, rfl, r2, r3⟩ := rep2 r1
    cases r2 with
    | lst hx ra =>
      cases r3 with
      | lst hy rb => exact ⟨_, _, _, _, rfl, SqL.of (hide_sub hx).1, SqL.of (hide_sub hy).1, k _ _ _ _ g1 (walks_Z hx ra hy rb) q1⟩

/-! ### lists that are made -/
/-- p: a list of ds, just made -/
structure NewL (k : Kx) (M : Hid) (G : Store) (H : Hp) (G' : Store) (H' : Hp) (p : Addr) (vs : List V) (ds : List D) : Prop where
  s : SRel k.K k.T (fun a => M a || decide (a = p)) G' H'
  r : RepAll k.K (hide (fun a => M a || decide (a = p)) G' H') vs ds
  x : Ext (hide M G H) (hide (fun a => M a || decide (a = p)) G' H')
  n : M p = false
  o : H' p = some (.lst vs)
  kp : ∀ a, M a = true → H' a = H a
section
variable {k : Kx} {M : Hid} {G G' : Store} {H H' : Hp} {p : Addr} {vs : List V} {ds : List D}
theorem hide_less {M M' : Hid} (h : ∀ a, M a = true → M' a = true) : ExtF (hide M' G H) (hide M G H) := fun a o e => by
  obtain ⟨h1, h2, h3⟩ := hide_sub e
  have q : M a = false := by
    cases z : M a with
    | false => rfl
    | true => rw [h a z] at h3; cases h3
  rw [hide_none q h2]; exact h1
theorem orp {a : Addr} (h : M a = true) : (M a || decide (a = p)) = true := by rw [h, Bool.true_or]
theorem NewL.imm (w : NewL k M G H G' H' p vs ds) : Grow k M G H G' H' ∧ Rep k.K (hide M G' H') (.ref p) (.lst ds) := by
  have x : ExtF (hide (fun a => M a || decide (a = p)) G' H') (hide M G' H') := hide_less fun a h => orp h
  refine ⟨⟨⟨fun a m e => ?_, w.s.tab.ext x, fun a m => ?_⟩, w.x.trans x.ext, w.kp⟩, ?_⟩
  · obtain ⟨o, h1, h2⟩ := w.s.sto a m e
    exact ⟨o, h1, h2.mono x.ext⟩
  · exact w.s.hid a (orp m)
  · have nG : G' p = none := (w.s.hid p (by simp)).2
    exact .lst (by rw [hide_none w.n nG]; exact w.o) (RepAll.mono x.ext _ _ w.r)
theorem NewL.mut (w : NewL k M G H G' H' p vs ds) : G' p = none ∧ Grow k M G H (put G' p (.lst ds)) H' := by
  have nG : G' p = none := (w.s.hid p (by simp)).2
  have x : ExtF (hide (fun a => M a || decide (a = p)) G' H') (hide M (put G' p (.lst ds)) H') := fun a o e => by
    obtain ⟨h1, h2, h3⟩ := hide_sub e
    have h4 : M a = false ∧ a ≠ p := by simpa using h3
    rw [hide_none h4.1 (by rw [put_ne h4.2]; exact h2)]; exact h1
  refine ⟨nG, ⟨fun a m e => ?_, w.s.tab.ext x, fun a m => ?_⟩, w.x.trans x.ext, w.kp⟩
  · by_cases h : a = p
    · subst h
      rw [put_same] at e
      cases e
      exact ⟨.lst vs, w.o, RepAll.mono x.ext _ _ w.r⟩
    · rw [put_ne h] at e
      obtain ⟨o, h1, h2⟩ := w.s.sto a m e
      exact ⟨o, h1, h2.mono x.ext⟩
  · have ne : a ≠ p := fun e => by rw [e, w.n] at m; cases m
    rw [put_ne ne]
    exact w.s.hid a (orp m)
/-- a list laid anew -/
theorem NewL.mk' {o : HO} (s : SRel k.K k.T M G H) (n : H p = none) (r : RepAll k.K (hide M G H) vs ds) : NewL k M G H G (upd H p (.lst vs)) p vs ds := by
  have e : ∀ a, hide (fun a => M a || decide (a = p)) G (upd H p (.lst vs)) a = hide M G H a := fun a => by
    by_cases h : a = p
    · subst h
      have h1 : hide M G H a = none := by rw [hide_none (s.seen n) (s.none_of n)]; exact n
      rw [h1]
      unfold hide
      simp
    · unfold hide
      rw [upd_ne h]
      simp [h]
  have e' := funext e
  refine ⟨⟨fun a m q => ?_, by rw [e']; exact s.tab, fun a m => ?_⟩, by rw [e']; exact r, by rw [e']; exact Ext.refl _, s.seen n, upd_same, s.keep (s.seen n)⟩
  · obtain ⟨u, h1, h2⟩ := s.sto a m q
    exact ⟨u, by rw [upd_ne (ne_of_none h1 n)]; exact h1, by rw [e']; exact h2⟩
  · by_cases h : a = p
    · subst h
      refine ⟨?_, s.none_of n⟩
      rw [upd_same]
      exact ⟨_, rfl⟩
    · have m' : M a = true := by simpa [h] using m
      rw [upd_ne h]; exact s.hid a m'
end
/-- an expression that makes a list -/
def tL (k : Kx) (f : DA) : TE := fun σ H P => ∃ (M : Hid) (ρ : DEnv) (G : Store) (Q : List D → Store → Prop) (E : DXK), ERel k.K (hide M G H) ρ σ ∧ SRel k.K k.T M G H ∧ EW k M G H E ∧ f ρ G Q E ∧
  ∀ p H' vs ds G', NewL k M G H G' H' p vs ds → Q ds G' → P (.ref p) H'
abbrev PDL (C : Dx) (e : Expr) (f : DA) : Prop := PE C.X e (tL C.k f)
def dImm (f : DA) : DE := fun ρ G Q E => f ρ G (fun ds G1 => Q (.lst ds) G1) E
def dMut (f : DA) : DE := fun ρ G Q E => f ρ G (fun ds G1 => ∀ p, G1 p = none → Q (.obj (.ref p)) (put G1 p (.lst ds))) E
theorem tE_imm {f : DA} : ∀ σ H P, tE C.k (dImm f) σ H P → tL C.k f σ H P := by
  rintro σ H P ⟨M, ρ, G, Q, E, er, sr, ew, h, k⟩
  exact ⟨M, ρ, G, _, E, er, sr, ew, h, fun p H' vs ds G' w q => k _ _ _ _ w.imm.1 w.imm.2 q⟩
theorem tE_mut {f : DA} : ∀ σ H P, tE C.k (dMut f) σ H P → tL C.k f σ H P := by
  rintro σ H P ⟨M, ρ, G, Q, E, er, sr, ew, h, k⟩
  exact ⟨M, ρ, G, _, E, er, sr, ew, h, fun p H' vs ds G' w q => k _ _ _ _ w.mut.2 (.obj _) (q p w.mut.1)⟩
theorem pd_imm {f : DA} (h : PDL C e f) : PDE C e (dImm f) := peI h tE_imm
theorem pd_mut {f : DA} (h : PDL C e f) : PDE C e (dMut f) := peI h tE_mut
end
end FD

set_option Elab.async false
set_option linter.all false
set_option maxRecDepth 100000
set_option maxHeartbeats 4000000
set_option autoImplicit false
/-! The D layer, eighth part: comprehensions, bodies of defs, raise. -/
namespace FD
open PySem PySem.Spec PyProof.Rows L2

/-! ### comprehensions -/
def noE : DXK := fun _ _ => False
/-- how a clause's target takes an item -/
abbrev Bnd := D → DEnv → Option DEnv
def bN (j : Nat) : Bnd := fun d ρ => some (ρ.set j (some d))
def bT (j1 j2 : Nat) : Bnd := fun d ρ => match d with
  | .tup [x, y] => some ((ρ.set j1 (some x)).set j2 (some y))
  | _ => none
def compL (bnd : Bnd) (q : DT) (fe : DE) (ρ : DEnv) (Z : List D → Store → Prop) : List D → List D → Store → Prop
  | [], acc, G => Z acc G
  | d :: ds, acc, G => match bnd d ρ with
    | some ρ' => q ρ' G (fun t G2 => match t with
      | true => fe ρ' G2 (fun y G3 => acc.length < sizeLine ∧ compL bnd q fe ρ Z ds (acc ++ [y]) G3) noE
      | false => compL bnd q fe ρ Z ds acc G2) noE
    | none => False
def wipeD (ρ : DEnv) : List Nat → DEnv
  | [] => ρ
  | v :: vs => (wipeD ρ vs).set v none
def dComp (fi : DA) (bnd : Bnd) (vs : List Nat) (q : DT) (fe : DE) : DA := fun ρ G Z E => fi ρ G (fun ds G1 => compL bnd q fe (wipeD ρ vs) Z ds [] G1) E
def dYes : DT := fun _ G Q _ => Q true G
theorem wipeD_len (ρ : DEnv) : ∀ vs, (wipeD ρ vs).length = ρ.length
  | [] => rfl
  | v :: vs => by unfold wipeD; rw [List.length_set, wipeD_len ρ vs]
theorem ERel.wipe {K : PySem.W.Frag} {H : Hp} {ρ : DEnv} {σ : L2.St} (h : ERel K H ρ σ) : ∀ vs : List Nat, ERel K H (wipeD ρ vs) (L2.wipe σ vs)
  | [] => h
  | v :: vs => by
    have ih := ERel.wipe h vs
    refine ⟨by rw [wipeD_len, wipe_length, h.len], fun i d e => ?_⟩
    unfold wipeD at e
    by_cases hi : i = v
    · subst hi
      have hl : i < (wipeD ρ vs).length := by
        have := (List.getElem?_eq_some_iff.mp e).1
        rwa [List.length_set] at this
      rw [List.getElem?_set_self hl] at e
      cases e
    · rw [List.getElem?_set_ne (Ne.symm hi)] at e
      obtain ⟨w, h1, h2⟩ := ih.at_ i d e
      refine ⟨w, ?_, h2⟩
      unfold L2.wipe
      rw [List.getElem?_set_ne (Ne.symm hi)]
      exact h1
/-- the target's rule and its reading on data go together -/
def BndOk (k : Kx) (g : TG) (bnd : Bnd) (vs : List Nat) : Prop := ∀ (M : Hid) (G : Store) (H : Hp) (d : D) (x : V) (ρ ρ' : DEnv) (σ : L2.St) (R : L2.St → Hp → Prop), Rep k.K (hide M G H) x d → ERel k.K (hide M G H) ρ σ → bnd d (wipeD ρ vs) = some ρ' →
  (∀ σ', L2.wipe σ' vs = L2.wipe σ vs → ERel k.K (hide M G H) ρ' σ' → R σ' H) → g x (L2.wipe σ vs) H R
theorem bndN (k : Kx) (j : Nat) : BndOk k (gName j) (bN j) [j] := fun M G H d x ρ ρ' σ R r er hb hR => by
  cases hb
  refine hR _ ?_ ((er.wipe [j]).set r)
  show (((σ.set j none).set j (some x)).set j none) = σ.set j none
  rw [List.set_set, List.set_set]
theorem bndT (k : Kx) (j1 j2 : Nat) (hj : j1 ≠ j2) : BndOk k (gTup k.K 2 (gCons (gName j1) (gCons (gName j2) gNil))) (bT j1 j2) [j1, j2] := fun M G H d x ρ ρ' σ R r er hb hR => by
  cases r with
  | @tup a vs ds hx ra =>
    match ds, hb with
    | [d1, d2], hb =>
      cases hb
      obtain ⟨v, w, rfl, r1, r2⟩ := rep2 ra
      refine ⟨_, _, rfl, sqT_hide hx, rfl, v, [w], rfl, w, [], rfl, rfl, hR _ ?_ (((er.wipe [j1, j2]).set r1).set r2)⟩
      show ((((((σ.set j2 none).set j1 none).set j1 (some v)).set j2 (some w)).set j2 none).set j1 none) = (σ.set j2 none).set j1 none
      rw [List.set_set, List.set_set, List.set_comm _ _ hj, List.set_set, List.set_set]
  | _ => cases hb
section
variable {C : Dx}
/-- a block's readings: no exception leaves it -/
abbrev Kx.blk (k : Kx) : Kx := { k with W := fun _ _ _ => False }
theorem tLc_of {fi : DA} {g : TG} {bnd : Bnd} {vs : List Nat} {q : DT} {fe : DE} (hb : BndOk C.k g bnd vs) : ∀ σ H P, tL C.k (dComp fi bnd vs q fe) σ H P → tLc (tI C.k fi) g (tT C.k.blk q) (tE C.k.blk fe) vs σ H P := by
  rintro σ H P ⟨M, ρ, G, Q, E, er, sr, ew, h, k⟩
  refine ⟨M, ρ, G, _, E, er, sr, ew, h, fun J H1 ds G1 g1 w q1 Dl hD => ?_⟩
  have n0 := NewL.mk' (k := C.k) (vs := []) (ds := []) (o := .lst []) g1.s hD .nil
  have N0 : NewL C.k M G H G1 (upd H1 Dl (.lst [])) Dl [] [] := ⟨n0.s, n0.r, g1.x.trans n0.x, n0.n, n0.o, fun a m => (n0.kp a m).trans (g1.k a m)⟩
  refine ⟨fun i m H' => m = ds.length - i ∧ i ≤ ds.length ∧ ∃ G' as acc, NewL C.k M G H G' H' Dl as acc ∧ Ext (hide M G1 H1) (hide (fun a => M a || decide (a = Dl)) G' H') ∧ compL bnd q fe (wipeD ρ vs) Q (ds.drop i) acc G', ⟨ds.length, rfl, Nat.zero_le _, G1, [], [], N0, n0.x, q1⟩, ?_⟩
  rintro i m H2 ⟨rfl, hi, G2, as, acc, N, x2, q2⟩
  by_cases hlt : i < ds.length
  · refine .inr ⟨w.go i _ G2 H2 N.s x2 hlt, fun H' => i + 1 ≤ ds.length ∧ ∃ G' as acc, NewL C.k M G H G' H' Dl as acc ∧ Ext (hide M G1 H1) (hide (fun a => M a || decide (a = Dl)) G' H') ∧ compL bnd q fe (wipeD ρ vs) Q (ds.drop (i + 1)) acc G', fun H' n => ⟨ds.length - (i + 1), by omega, rfl, n.1, n.2⟩, fun x H3 y => ?_⟩
    obtain ⟨d, hd, g3, r3⟩ := w.yld i _ G2 H2 x H3 N.s x2 hlt y
    have e : ds.drop i = d :: ds.drop (i + 1) := by
      rw [List.drop_eq_getElem_cons hlt]
      have e2 : ds[i] = d := Option.some.inj ((List.getElem?_eq_getElem hlt).symm.trans hd)
      rw [e2]
    rw [e] at q2
    unfold compL at q2
    cases hbd : bnd d (wipeD ρ vs) with
    | none => rw [hbd] at q2; exact False.elim q2
    | some ρ' =>
      rw [hbd] at q2
      have grown : ∀ {G' : Store} {H' : Hp}, Grow C.k (fun a => M a || decide (a = Dl)) G2 H2 G' H' → NewL C.k M G H G' H' Dl as acc := fun {G' H'} g => by
        have hD' : H' Dl = H2 Dl := g.k Dl (by simp)
        exact ⟨g.s, RepAll.mono g.x _ _ N.r, N.x.trans g.x, N.n, hD'.trans N.o, fun a m => (g.k a (orp m)).trans (N.kp a m)⟩
      refine hb _ G2 H3 d x ρ ρ' σ _ r3 ((er.mono N.x).mono g3.x) hbd fun σ' hσ er' => ⟨hσ, ?_⟩
      refine ⟨_, ρ', G2, _, noE, er', g3.s, fun _ _ _ _ _ _ z => z.elim, q2, fun t H4 G4 g4 q4 => ?_⟩
      have g5 : Grow C.k (fun a => M a || decide (a = Dl)) G2 H2 G4 H4 := g3.trans ⟨g4.s, g4.x, g4.k⟩
      cases t with
      | true =>
        refine iteT ⟨_, ρ', G4, _, noE, er'.mono g4.x, g4.s, fun _ _ _ _ _ _ z => z.elim, q4, fun v H6 dv G6 g6 r6 q6 => ?_⟩
        have g7 : Grow C.k (fun a => M a || decide (a = Dl)) G2 H2 G6 H6 := g5.trans ⟨g6.s, g6.x, g6.k⟩
        have N7 := grown g7
        refine ⟨as, N7.o, by rw [N7.r.length]; exact q6.1, hlt, G6, as ++ [v], acc ++ [dv], ?_, ?_, q6.2⟩
        · have eh : hide (fun a => M a || decide (a = Dl)) G6 (upd H6 Dl (.lst (as ++ [v]))) = hide (fun a => M a || decide (a = Dl)) G6 H6 := by
            funext a
            by_cases h : a = Dl
            · subst h; unfold hide; simp
            · unfold hide; rw [upd_ne h]
          have nG : G6 Dl = none := (N7.s.hid Dl (by simp)).2
          refine ⟨⟨fun a m z => ?_, by rw [eh]; exact N7.s.tab, fun a m => ?_⟩, by rw [eh]; exact N7.r.append (.cons r6 .nil), by rw [eh]; exact N7.x, N.n, upd_same, fun a m => ?_⟩
          · have ne : a ≠ Dl := fun z' => by rw [z', nG] at z; cases z
            rw [eh, upd_ne ne]; exact N7.s.sto a m z
          · by_cases h : a = Dl
            · subst h
              refine ⟨?_, nG⟩
              rw [upd_same]; exact ⟨_, rfl⟩
            · rw [upd_ne h]; exact N7.s.hid a m
          · have ne : a ≠ Dl := fun z' => by rw [z', N.n] at m; cases m
            rw [upd_ne ne]; exact N7.kp a m
        · have eh : hide (fun a => M a || decide (a = Dl)) G6 (upd H6 Dl (.lst (as ++ [v]))) = hide (fun a => M a || decide (a = Dl)) G6 H6 := by
            funext a
            by_cases h : a = Dl
            · subst h; unfold hide; simp
            · unfold hide; rw [upd_ne h]
          rw [eh]; exact x2.trans g7.x
      | false => exact iteF ⟨hlt, G4, as, acc, grown g5, x2.trans g5.x, q4⟩
  · have e : i = ds.length := by omega
    subst e
    rw [List.drop_length] at q2
    exact .inl ⟨w.stop _ G2 H2 N.s x2, k _ _ _ _ _ N q2⟩
/-- the context of a comprehension's block -/
abbrev Dx.blk (C : Dx) (s : Shared) (H : Hp) (scope : Scope) (cenv : Env) (fp : List Addr) : Dx where
  X := C.X.blk s H scope cenv fp
  T := C.T
  W := fun _ _ _ => False
  hu := C.hu
  tk := takes0N
  po := PassesOwn.never
theorem ptsI {X : Cx} {es : List Expr} {t t' : L2.TT} (h : PTs X es t') (i : ∀ σ H P, t σ H P → t' σ H P) : PTs X es t := ⟨fun pins s σ H Q I w => h.run pins s σ H Q I (i σ H Q w)⟩
theorem pdts_nil {C : Dx} : PTs C.X [] (tT C.k dYes) := by
  refine ptsI pts_nil ?_
  rintro σ H P ⟨M, ρ, G, Q, E, er, sr, ew, h, k⟩
  exact k _ _ _ (Grow.refl sr) h
theorem pdts_one {C : Dx} {c : Expr} {q : DT} (h : PDT C c q) : PTs C.X [c] (tT C.k q) := pts_one h
section
variable {fi : DA} {q : DT} {fe : DE} {elt iter : Expr} {ifs : List Expr} {scope : Scope} {pos : Pos}
/-- [elt for x in iter if ..] -/
theorem pdl_comp {x : Str} {j : Nat} {tp : Pos} (hc : C.X.calm = true) (hN : C.X.N.Nodup) (hi : PDI C (.Name x tp) iter fi) (ok : BlkOk C.X.N C.X.env.scope scope [(x, j)])
    (hg : ∀ (s : Shared) (H : Hp) (Ca : Addr) (cl : List (Str × Addr)) (fp : List Addr), PG (C.X.blk s H scope (compEnvC scope cl Ca C.X.env) fp) (.Name x tp) (gName j))
    (ht : ∀ (s : Shared) (H : Hp) (Ca : Addr) (cl : List (Str × Addr)) (fp : List Addr), PTs (C.blk s H scope (compEnvC scope cl Ca C.X.env) fp).X ifs (tT (C.blk s H scope (compEnvC scope cl Ca C.X.env) fp).k q))
    (he : ∀ (s : Shared) (H : Hp) (Ca : Addr) (cl : List (Str × Addr)) (fp : List Addr), PDE (C.blk s H scope (compEnvC scope cl Ca C.X.env) fp) elt fe) (hs : ∀ x, foldedSetIterable iter C.X.env x = pure x := by intro _; rfl) :
    PDL C (.ListComp elt [⟨.Name x tp, iter, ifs, 0⟩] scope pos) (dComp fi (bN j) [j] q fe) :=
  peI (pe_lc (own := [(x, j)]) (tt := tT C.k.blk q) (te := tE C.k.blk fe) hc hN hi ok hg ht he hs) (tLc_of (bndN _ j))
theorem pds_setComp {i : Nat} {y : Str} {py spos : Pos} {x : Str} {j : Nat} {tp : Pos} (hc : C.X.calm = true) (hN : C.X.N.Nodup) (hi : PDI C (.Name x tp) iter fi) (ok : BlkOk C.X.N C.X.env.scope scope [(x, j)])
    (hg : ∀ (s : Shared) (H : Hp) (Ca : Addr) (cl : List (Str × Addr)) (fp : List Addr), PG (C.X.blk s H scope (compEnvC scope cl Ca C.X.env) fp) (.Name x tp) (gName j))
    (ht : ∀ (s : Shared) (H : Hp) (Ca : Addr) (cl : List (Str × Addr)) (fp : List Addr), PTs (C.blk s H scope (compEnvC scope cl Ca C.X.env) fp).X ifs (tT (C.blk s H scope (compEnvC scope cl Ca C.X.env) fp).k q))
    (he : ∀ (s : Shared) (H : Hp) (Ca : Addr) (cl : List (Str × Addr)) (fp : List Addr), PDE (C.blk s H scope (compEnvC scope cl Ca C.X.env) fp) elt fe)
    (hsw : swapsWith (.ListComp elt [⟨.Name x tp, iter, ifs, 0⟩] scope pos) (some (.Name y py)) spos.line C.X.env = pure true) (hy : C.X.N[i]? = some y := by rfl) (hyl : C.X.env.scope.names.lookup y = some .local := by rfl) (hs : ∀ x, foldedSetIterable iter C.X.env x = pure x := by intro _; rfl) :
    PDS C (.Assign [.Name y py] (.ListComp elt [⟨.Name x tp, iter, ifs, 0⟩] scope pos) spos) (dAsg (dImm (dComp fi (bN j) [j] q fe)) (dgName i)) := by
  refine psI (ps_setLc (i := i) (own := [(x, j)]) (tt := tT C.k.blk q) (te := tE C.k.blk fe) hc hN hy hyl hsw hi ok hg ht he hs) ?_
  rintro A σ H ⟨M, ρ, G, B, er, sr, ew, h, kn, kr, kb, kc⟩
  refine tLc_of (bndN _ j) _ _ _ (tE_imm _ _ _ ⟨M, ρ, G, _, _, er, sr, ew, h, fun v H1 d G1 g1 r1 q1 => ?_⟩)
  exact kn _ _ _ _ g1 ((er.mono g1.x).set r1) q1
end
end
end FD

set_option Elab.async false
set_option linter.all false
set_option maxRecDepth 100000
set_option maxHeartbeats 4000000
set_option autoImplicit false
/-! The D layer, ninth part: bodies of defs, raise, methods. -/
namespace FD
open PySem PySem.Spec PyProof.Rows L2

/-! ### raise -/
/-- the module's n is an own class of errors over ValueError -/
structure ErrC (K : PySem.W.Frag) (mg : Str → Option Value) (n : Str) : Prop where
  ex : ∃ c : Addr, mg n = some (.ref c) ∧ PySem.W.excIn K c PySem.HandSPX.veTail "ValueError.__new__" = true ∧ PySem.W.keepIn K (.ref c) = true ∧ PySem.W.subIn K (.ref c) (.type "BaseException") = some true ∧ PySem.W.typeIn K (.ref c) = some (.type "type")
section
variable {C : Dx} {pos : Pos} {a b c e : Expr} {fa fb fc fe : DE} {es : List Expr} {fs : DA}
def dRaise (n : Str) : DS := fun B _ G => B.er n G
theorem pds_raise {n m : Str} {j : Nat} {p p2 pos2 : Pos} (hc : C.X.calm = true) (E : ErrC C.X.K C.X.mg n) (hg : Gl C.X n := by rfl) (hdb : (n == ("__debug__" : Str)) = false := by decide) :
    PDS C (.Raise (some (.Call (.Name n p) [.Constant (.str m) j p2] [] pos)) none pos2) (dRaise n) := by
  obtain ⟨c, h1, h2, h3, h4, h5⟩ := E.ex
  refine psI (L2N.ps_raise hc C.tk (L2N.pmk_own PySem.F.excBase_ValueError h2 h1 h3 (raises_own h4 h5) hg hdb)) ?_
  rintro A σ H ⟨M, ρ, G, B, er, sr, ew, h, kn, kr, kb, kc⟩
  exact ew n c G H h1 (Grow.refl sr) h
/-- o.append(e), o a list in the store -/
def dApp (fo fe : DE) : DE := fun ρ G Q E => fo ρ G (fun o G1 => match o with
  | .obj (.ref p) => (∃ ds, G1 p = some (.lst ds)) ∧ fe ρ G1 (fun d G2 => ∃ ds, G2 p = some (.lst ds) ∧ ds.length < sizeLine ∧ Q .non (put G2 p (.lst (ds ++ [d])))) E
  | _ => False) E
theorem pd_append {o : Expr} {fo : DE} {apos cpos : Pos} (ho : PDE C o fo) (he : PDE C e fe) (hbase : attributeBase o "append" C.X.env (eval o C.X.env) = eval o C.X.env := by rfl)
    (hfew : ((backTo cpos (starEach [e] C.X.env)).all (fun x => !x.1) && (backToKw cpos (keywordEach [] C.X.env)).all (fun x => x.1.isSome)
      && decide ([e].length + ([] : List Keyword).length + (if ([] : List Keyword).isEmpty then 0 else 1) < 30)) = true := by rfl)
    (hline : (apos.endLine == cpos.line) = true := by rfl) (hs : starEach [e] C.X.env = (false, eval e C.X.env) :: starEach [] C.X.env := by rfl) : PDE C (.Call (.Attribute o "append" apos) [e] [] cpos) (dApp fo fe) := by
  refine peI (pe_bm PySem.F.plainAttrs_list PySem.F.slot_list_append PySem.F.type_list_append mt_append ho (pa_cons he pa_nil hs) hbase hfew hline hs rfl) ?_
  rintro σ H P ⟨M, ρ, G, Q, E, er, sr, ew, h, k⟩
  refine ⟨M, ρ, G, _, E, er, sr, ew, h, fun v H1 d G1 g1 r1 q1 => ?_⟩
  cases d with
  | obj v' =>
    cases r1
    cases v with
    | ref p =>
      obtain ⟨⟨ds0, h0⟩, q1⟩ := q1
      obtain ⟨o1, e1, e2⟩ := g1.s.sto p _ h0
      cases o1 with
      | lst vs0 =>
        refine ⟨Or.inl ⟨rfl, _, Or.inl (Or.inl e1)⟩, M, ρ, G1, _, E, er.mono g1.x, g1.s, ew.on g1, q1, fun w H2 d G2 g2 r2 q2 => ?_⟩
        obtain ⟨ds, h2, hz, q⟩ := q2
        obtain ⟨o2, e3, e4⟩ := g2.s.sto p _ h2
        cases o2 with
        | lst vs =>
          have ra : RepAll C.X.K (hide M G2 H2) vs ds := e4
          have gw := Grow.wr (C := C.k) (m := .lst (ds ++ [d])) (o := .lst (vs ++ [w])) g2.s h2 (ra.append (.cons r2 .nil))
          exact ⟨p, vs, w, rfl, rfl, e3, by rw [ra.length]; exact hz, k _ _ _ _ ((g1.trans g2).trans gw) .non q⟩
        | _ => exact False.elim e4
      | _ => exact False.elim e2
    | _ => exact False.elim q1
  | _ => exact False.elim q1
/-- a text's method with one argument, by values -/
def dM1 (g : G2) (fo fe : DE) : DE := fun ρ G Q E => fo ρ G (fun o G1 => match o with
  | .str a => fe ρ G1 (fun d G2 => g (.str a) d G2 Q) E
  | _ => False) E
theorem tE_M1 {r : V → List V → Hp → VK → Prop} {g : G2} {fo fe : DE} (hg : OpD C (fun x y => r x [y]) g) : ∀ σ H P, tE C.k (dM1 g fo fe) σ H P → tM1 r (tE C.k fo) (tE C.k fe) σ H P := by
  rintro σ H P ⟨M, ρ, G, Q, E, er, sr, ew, h, k⟩
  refine ⟨M, ρ, G, _, E, er, sr, ew, h, fun v H1 d G1 g1 r1 q1 => ?_⟩
  cases r1 with
  | str a =>
    refine ⟨⟨a, rfl⟩, M, ρ, G1, _, E, er.mono g1.x, g1.s, ew.on g1, q1, fun w H2 d2 G2 g2 r2 q2 => ?_⟩
    exact hg M G2 H2 _ _ _ _ Q P g2.s (.str a) r2 q2 fun v3 H3 d3 G3 g3 r3 q3 => k v3 H3 d3 G3 ((g1.trans g2).trans g3) r3 q3
  | _ => exact False.elim q1
/-- sep.join(list of texts) -/
def gJoin : G2
  | .str a, .lst ds, G, Q => ∃ ys : List Str, ds = ys.map D.str ∧ (ys.map (·.length)).sum + ys.length * a.length ≤ 16777216 ∧ Q (.str (Txt.join a ys)) G
  | _, _, _, _ => False
theorem pd_join {o : Expr} {fo : DE} {apos cpos : Pos} (ho : PDE C o fo) (he : PDE C e fe) (hs : starEach [e] C.X.env = [(false, eval e C.X.env)] := by rfl) (hbase : attributeBase o "join" C.X.env (eval o C.X.env) = eval o C.X.env := by rfl) (hline : (apos.endLine == cpos.line) = true := by rfl) :
    PDE C (.Call (.Attribute o "join" apos) [e] [] cpos) (dM1 gJoin fo fe) := by
  refine peI (pe_join ho he hs hbase hline) (tE_M1 ?_)
  intro M G H x y dx dy Q P sr rx ry h k
  cases rx with
  | str a =>
    cases ry with
    | lst hx ra =>
      obtain ⟨ys, rfl, hz, q⟩ := h
      rw [repStrs ra] at hx
      exact ⟨a, _, ys, rfl, rfl, .inl (SqL.of (hide_sub hx).1), hz, here sr k (.str _) q⟩
    | _ => exact False.elim h
  | _ => exact False.elim h
end

/-! ### a def by its body -/
/-- the slots at the entry -/
def startD (N : List Str) (ds : List D) : DEnv := ds.map some ++ List.replicate (N.length - ds.length) none
theorem start_rel {K : PySem.W.Frag} {H : Hp} {N : List Str} {vs : List V} {ds : List D} (r : RepAll K H vs ds) : ERel K H (startD N ds) (L2.start N vs) := by
  refine ⟨by simp [startD, L2.start, r.length], fun i d e => ?_⟩
  unfold startD at e
  unfold L2.start
  by_cases hi : i < ds.length
  · rw [List.getElem?_append_left (by rw [List.length_map]; exact hi), List.getElem?_map] at e
    cases q : ds[i]? with
    | none => rw [q] at e; cases e
    | some d' =>
      rw [q] at e
      cases e
      obtain ⟨v, h1, h2⟩ := r.get q
      exact ⟨v, by rw [List.getElem?_append_left (by rw [List.length_map, r.length]; exact hi), List.getElem?_map, h1]; rfl, h2⟩
  · rw [List.getElem?_append_right (by rw [List.length_map]; omega)] at e
    rw [List.getElem?_replicate] at e
    split at e <;> cases e
section
variable {P : Program} {w : World} {K : PySem.W.Frag} {mg : Str → Option Value} {base : Heap} {T : Tb}
abbrev bodyX (P : Program) (w : World) (K : PySem.W.Frag) (mg : Str → Option Value) (base : Heap) (N : List Str) (qual : Str) (st : Stmt) (f : Addr) (cdv : Value) (A : Around) (outer : List Env) (s : Shared) (H : Hp) (E : XK) : Cx :=
  cxOf (L2N.CX P w) P w K mg base N qual (defScope st) f cdv A outer s H E
abbrev bodyD {P : Program} {w : World} {K : PySem.W.Frag} {mg : Str → Option Value} {base : Heap} (T : Tb) {N : List Str} {qual : Str} {st : Stmt} {f : Addr} {cdv : Value} {A : Around} {outer : List Env} {s : Shared} {H : Hp} {E : XK} {k : Nat}
    (hr : Room k (A.deeper (envOfC qual (defScope st) s.heap.objs.size f cdv))) : Dx where
  X := bodyX P w K mg base N qual st f cdv A outer s H E
  T := T
  W := E
  hu := hr.units
  tk := L2N.takes_of rfl rfl rfl rfl
  po := passes_of rfl
theorem def_of {x : Str} {st : Stmt} {f : Addr} {fd : FuncData} {N ps : List Str} {k : Nat} {dsp : DSp} {fs : DS} (F : Fun K x x st f fd) (gx : mg x = some (.ref f)) (bnd : Binds K fd ps []) (S : FnScope N ps (defScope st))
    (len : ∀ ds G Q E, dsp ds G Q E → ds.length = ps.length)
    (body : ∀ (cdv : Value) (A : Around) (outer : List Env) (s : Shared) (H : Hp) (E : XK) (hr : Room k (A.deeper (envOfC x (defScope st) s.heap.objs.size f cdv))), PDSs (bodyD (P := P) (w := w) (K := K) (mg := mg) (base := base) T (N := N) (outer := outer) (H := H) (E := E) hr) (defBody st) fs)
    (rd : ∀ ds G Q E, dsp ds G Q E → fs { nx := fun _ G => Q .non G, rt := Q, er := E } (startD N ds) G) : Def P w K mg base T (k + 1) x dsp := by
  refine ⟨f, fd, ps, gx, F.kp, bnd, ?_⟩
  obtain ⟨oc, od, kV, doc, pm, an, cdv, ct, osl, rfl, lk, hcd⟩ := F.ex
  refine fn_of lk hcd S (fun vs H Q E h => ?_) (fun A outer s H vs Q E hr hsp => ⟨_, body cdv A outer s H E hr, ?_⟩)
  · obtain ⟨M, ds, G, Q', E', r, _, _, h, _⟩ := h
    rw [r.length]; exact len _ _ _ _ h
  · obtain ⟨M, ds, G, Q', E', r, sr, ew, h, k⟩ := hsp
    refine ⟨M, startD N ds, G, _, start_rel r, sr, fun n c G1 H1 hm g e => ew n c G1 H1 hm ⟨g.s, g.x, g.k⟩ e, rd ds G Q' E' h, fun ρ' σ' G' H' g er' q => k _ _ _ _ ⟨g.s, g.x, g.k⟩ .non q, fun v H' d G' g r' q => k _ _ _ _ ⟨g.s, g.x, g.k⟩ r' q, fun _ _ _ _ _ _ z => z.elim, fun _ _ _ _ _ _ z => z.elim⟩
end
end FD

set_option Elab.async false
set_option linter.all false
set_option maxRecDepth 100000
set_option maxHeartbeats 4000000
set_option autoImplicit false
/-! The D layer, tenth part: x[::-1] of tuples and texts, more methods of texts. -/
namespace FD
open PySem PySem.Spec PyProof.Rows L2
section
variable {prog : Program} {w : World} {A : Around} {E : Value → Shared → Prop} {s : Shared}
theorem sliceApplied_rev {sl : Addr} {u : Tok} {n : Nat} {Q : Int × Int × Nat → Shared → Prop} (hs : s.heap.IsSliceOf sl .none .none (.int (-1) u))
    (h : Q ((n : Int) - 1, -1, n) s) : wpAny (model prog w) A (Builtin.Slice.sliceApplied (.ref sl) (pure (n : Int))) Q E s := by
  obtain ⟨os, hos, hcs, hds⟩ := id hs
  unfold Builtin.Slice.sliceApplied Builtin.Slice.sliceFields
  refine wpAny_bind (wpAny_bind (wpAny_field hos hds (x := .none) rfl (wpAny_bind (wpAny_field hos hds (x := .none) rfl (wpAny_bind (wpAny_field hos hds (x := .int (-1) u) rfl (wpAny_pure ?_)))))))
  refine wpAny_bind (slicePart_int ?_)
  show wpAny _ _ (if ((-1 : Int) == 0) = true then _ else _) _ _ s
  rw [if_neg (by decide)]
  refine wpAny_bind (slicePart_none (wpAny_bind (slicePart_none (wpAny_bind (wpAny_pure ?_)))))
  show wpAny _ _ (match Builtin.Slice.sliceAdjust none none (-1) (n : Int) with | (lo, hi) => pure (lo, (-1 : Int), Builtin.Slice.slicePlaces lo hi (-1))) _ _ s
  have e1 : Builtin.Slice.sliceAdjust none none (-1) (n : Int) = ((n : Int) - 1, -1) := by
    first
      | rfl
      | simp [Builtin.Slice.sliceAdjust]
  rw [e1]
  have e2 : Builtin.Slice.slicePlaces ((n : Int) - 1) (-1) (-1) = n := by
    unfold Builtin.Slice.slicePlaces
    by_cases hn : n = 0
    · subst hn; decide
    · simp; omega
  show wpAny _ _ (pure ((n : Int) - 1, (-1 : Int), Builtin.Slice.slicePlaces ((n : Int) - 1) (-1) (-1))) _ _ s
  rw [e2]
  exact wpAny_pure h
theorem fm_congr {α β : Type} {f g : α → Option β} : ∀ {l : List α}, (∀ a ∈ l, f a = g a) → l.filterMap f = l.filterMap g
  | [], _ => rfl
  | a :: l, h => by
    rw [List.filterMap_cons, List.filterMap_cons, h a List.mem_cons_self, fm_congr fun b hb => h b (List.mem_cons_of_mem _ hb)]
theorem pick_rev (xs : Array Value) : ((List.range xs.size).filterMap fun (k : Nat) => xs[(((xs.size : Nat) : Int) - 1 + (k : Int) * (-1)).toNat]?).toArray = xs.toList.reverse.toArray := by
  have e : (List.range xs.size).filterMap (fun (k : Nat) => xs[(((xs.size : Nat) : Int) - 1 + (k : Int) * (-1)).toNat]?) = ((List.range xs.size).map fun k => xs.size - 1 - k).filterMap (xs[·]?) := by
    rw [List.filterMap_map]
    refine fm_congr fun k hk => ?_
    have := List.mem_range.mp hk
    have q : (((xs.size : Nat) : Int) - 1 + (k : Int) * (-1)).toNat = xs.size - 1 - k := by omega
    show xs[_]? = xs[_]?
    rw [q]
  rw [e, PySem.W.krv_range, List.filterMap_reverse, PySem.W.krv_all]
theorem getItem_tuple_rev {t sl : Addr} {items : Array Value} {u : Tok} {Q : Value → Shared → Prop} (ht : IsTup s.heap t items) (hs : s.heap.IsSliceOf sl .none .none (.int (-1) u))
    (h : Q (.ref s.heap.objs.size) { s with heap := s.heap.push { cls := .type "tuple", data := .seq items.toList.reverse.toArray } }) (hsz : items.size ≤ sizeLine) : wpAny (model prog w) A (getItem (.ref t) (.ref sl)) Q E s := by
  have htake : sizeOk (.seq items.toList.reverse.toArray) := by
    show (items.toList.reverse.toArray).size ≤ sizeLine
    rw [List.size_toArray, List.length_reverse, Array.length_toList]
    exact hsz
  obtain ⟨os, hos, hcs, hds⟩ := id hs
  have hTs : s.TypeIs (.ref sl) "slice" := ⟨os, hos, hcs⟩
  unfold getItem
  try with_reducible refine wpAny_holding ?_
  first | refine wpAny_bind (wpAny_pure ?_) | skip
  refine wpAny_bind (wpAny_sequenceKey ht.typeIs (by decide) ?_)
  refine wpAny_bind (wpAny_callSpecial?_slot (name := Str.ofString "__getitem__") ht.typeIs PyProof.Rows.slot_tuple_getitem
    (wpAny_call_entry PyProof.Rows.slot_tuple_getitem ht.typeIs entry_tuple_getitem ?_ (args_tuple_getitem _ _)))
  show wpAny _ _ (Builtin.Tuple.tupleItemsOf (.ref t) >>= _) _ _ s
  refine wpAny_bind (tupleItemsOf_ ht ?_)
  refine wpAny_bind (wpAny_typeOf hTs ?_)
  rw [if_pos (by decide)]
  refine wpAny_bind (sliceApplied_rev hs ?_)
  have hno : ¬ (((((items.size : Nat) : Int) - 1) == 0 && (-1 : Int) == 1 && items.size == items.size) = true) := by
    intro q
    rw [Bool.and_eq_true, Bool.and_eq_true] at q
    exact absurd (eq_of_beq q.1.2) (by decide)
  show wpAny _ _ (if ((((items.size : Nat) : Int) - 1) == 0 && (-1 : Int) == 1 && items.size == items.size) = true then _ else _) _ _ s
  rw [if_neg hno, pick_rev]
  first
    | exact wpAny_bind (m := Builtin.Tuple.tupleExact _) (wpAny_newObj_type (wpAny_pure ⟨_, rfl, wpAny_pure h⟩) htake)
    | exact wpAny_bind (m := Builtin.Tuple.tupleExact _) (wpAny_newObj_type (wpAny_bind (wpAny_pure (wpAny_pure ⟨_, rfl, wpAny_pure h⟩))) htake)
    | exact wpAny_bind (wpAny_bind (m := Builtin.Tuple.tupleExact _) (wpAny_newObj_type (wpAny_pure (wpAny_pure ⟨_, rfl, wpAny_pure h⟩)) htake))
    | exact wpAny_bind (wpAny_bind (m := Builtin.Tuple.tupleExact _) (wpAny_newObj_type (wpAny_pure ⟨_, rfl, wpAny_pure h⟩) htake))
end
/-- a text backward -/
def revS (z : Str) : Str := ⟨z.cps.toList.reverse.toArray⟩
def tRev (K : PySem.W.Frag) (te : TE) : TE := fun σ H Q => te σ H fun x H1 => (∃ a xs, x = .ref a ∧ SqT K H1 a xs ∧ ∀ p, H1 p = none → Q (.ref p) (upd H1 p (.tup xs.reverse))) ∨ ∃ z, x = .str z ∧ z.length ≤ sizeLine ∧ Q (.str (revS z)) H1
theorem revS_len (z : Str) : (revS z).length = z.length := by
  show (z.cps.toList.reverse.toArray).size = z.cps.size
  rw [List.size_toArray, List.length_reverse, Array.length_toList]
theorem pe_rev {X : Cx} {e : Expr} {te : TE} {k : Nat} {p1 p2 p3 pos : Pos} (he : PE X e te) : PE X (.Subscript e (.Slice none none (some (.UnaryOp .USub (.Constant (.int 1) k p1) p2)) p3) pos) (tRev X.K te) := by
  refine ⟨fun pins s σ H Q I h => ?_⟩
  refine Subscript_ (thn (he.run pins s σ H _ I h) fun v s1 ⟨x, H1, I1, r1, q1⟩ => ?_)
  have hst : PO X (some (.UnaryOp .USub (.Constant (.int 1) k p1) p2)) (tPart (tUn (rU fun i => .int (-i)) (tC (.int 1)))) := po_some (pe_un un_neg pe_int)
  refine wpAny_Slice (thn (po_none.run pins s1 σ H1 (fun o H2 => o = none ∧ H2 = H1) I1 ⟨rfl, rfl⟩) fun vl s2 ⟨l, H2, I2, pl, el, e2⟩ => ?_)
  subst el e2
  refine thn (po_none.run pins s2 σ H2 (fun o H3 => o = none ∧ H3 = H2) I2 ⟨rfl, rfl⟩) fun vu s3 ⟨u, H3, I3, pu, eu, e3⟩ => ?_
  subst eu e3
  refine thn (hst.run pins s3 σ H3 (fun o H4 => o = some (-1) ∧ H4 = H3) I3 ⟨1, rfl, -1, rfl, rfl, rfl⟩) fun vs s4 ⟨o, H4, I4, ps, eo, e4⟩ => ?_
  subst eo e4
  have I5 : Inv X pins σ H4 { s4 with heap := s4.heap.push { cls := .type "slice", data := .fields #[vl, vu, vs] } } := I4.kept (t' := s4.toks) fun b ob q => Heap.get?_push_of_some _ q
  obtain rfl : vl = .none := by cases pl; rfl
  obtain rfl : vu = .none := by cases pu; rfl
  obtain ⟨tk, rfl⟩ : ∃ tk, vs = .int (-1) tk := by cases ps; exact ⟨_, rfl⟩
  rcases q1 with ⟨a, xs, ex, hx, q⟩ | ⟨z, ex, hz, q⟩
  · subst ex
    cases r1
    obtain ⟨its, r, ht, hz⟩ := I5.tuple hx
    show wpAny (model X.prog X.w) X.A (subscriptTail e (.Slice none none (some (.UnaryOp .USub (.Constant (.int 1) k p1) p2)) p3) (.ref a) (.ref s4.heap.objs.size)) (EP X pins σ Q) X.xe _
    refine tail_any (ops := [.ref a, .ref s4.heap.objs.size]) ht.typeIs (PyProof.Rows.slot_tuple_getitem.lookup) ?_ (by with_unfolding_all rfl)
    refine getItem_tuple_rev (u := tk) ht (Heap.IsSliceOf.new _ .none .none (.int (-1) tk)) ?_ (by rw [List.size_toArray, ← r.length]; exact hz)
    refine ⟨.ref _, _, I5.laid (t' := s4.toks) (o := .tup xs.reverse) (fun b ob q => Heap.get?_push_of_some _ q) (Nat.le_refl _) ?_, rfl, q _ (I5.hok.fresh (Nat.le_refl _))⟩
    exact ⟨by rw [List.length_reverse]; exact hz, _, r.reverse, ⟨_, Heap.get?_push_size _ rfl, rfl, _, rfl⟩⟩
  · subst ex
    obtain ⟨t, rfl⟩ := r1
    show wpAny (model X.prog X.w) X.A (subscriptTail e (.Slice none none (some (.UnaryOp .USub (.Constant (.int 1) k p1) p2)) p3) (.str z t) (.ref s4.heap.objs.size)) (EP X pins σ Q) X.xe _
    refine tail_any (ops := [.str z t, .ref s4.heap.objs.size]) (typeIs_str _ _ _) (F.slot_str_getitem.lookup) ?_ (by with_unfolding_all rfl)
    refine wpAny_getItem_str_slice (l := none) (u := none) (st := some (-1, tk)) ⟨_, Heap.get?_push_size _ rfl, rfl, rfl⟩ rfl ?_
    have e1 : Builtin.Str.strSliceIndices none none (-1) z.length = (List.range z.cps.size).reverse := by
      unfold Builtin.Str.strSliceIndices
      show sliceRange ((z.cps.size : Int) - 1) (-1) (-1) = _
      rw [PySem.W.krv_sliceRange, PySem.W.krv_range]
    have e2 : ((Builtin.Str.strSliceIndices none none (-1) z.length).filterMap (z.cps[·]?)).toArray = z.cps.toList.reverse.toArray := by
      rw [e1, List.filterMap_reverse, PySem.W.krv_all]
    show Made.post (if ((-1 : Int) == 1 && (Builtin.Str.strSliceIndices none none (-1) z.length).length == z.length) = true then Made.val (.str z t)
      else Made.str ⟨((Builtin.Str.strSliceIndices none none (-1) z.length).filterMap (z.cps[·]?)).toArray⟩) (EP X pins σ Q) _
    rw [if_neg (by simp), e2]
    exact ⟨by rw [show (⟨z.cps.toList.reverse.toArray⟩ : Str).length = z.length from revS_len z]; exact hz, .str (revS z), H4, I5.tok _, ⟨_, rfl⟩, q⟩
section
variable {C : Dx} {pos : Pos} {a b c e : Expr} {fa fb fc fe : DE} {es : List Expr} {fs : DA}
def dRev (fe : DE) : DE := fun ρ G Q E => fe ρ G (fun d G1 => match d with
  | .tup ds => Q (.tup ds.reverse) G1
  | .str z => z.length ≤ sizeLine ∧ Q (.str (revS z)) G1
  | _ => False) E
theorem pd_rev {k : Nat} {p1 p2 p3 : Pos} (he : PDE C e fe) : PDE C (.Subscript e (.Slice none none (some (.UnaryOp .USub (.Constant (.int 1) k p1) p2)) p3) pos) (dRev fe) := by
  refine peI (pe_rev he) ?_
  rintro σ H P ⟨M, ρ, G, Q, E, er, sr, ew, h, k⟩
  refine ⟨M, ρ, G, _, E, er, sr, ew, h, fun v H1 d G1 g1 r1 q1 => ?_⟩
  have k' : ∀ v H' d G', Grow C.k M G1 H1 G' H' → Rep C.X.K (hide M G' H') v d → Q d G' → P v H' := fun v H' d G' g' r' q' => k v H' d G' (g1.trans g') r' q'
  cases r1 with
  | tup hx ra => exact .inl ⟨_, _, rfl, sqT_hide hx, fun p n => made g1.s k' ra.reverse n q1⟩
  | str z => exact .inr ⟨z, rfl, q1.1, here g1.s k' (.str _) q1.2⟩
  | _ => exact False.elim q1
/-- x.count(y), x.find(y) -/
def gCount : G2
  | .str a, .str b, G, Q => Q (.int (Txt.count a b)) G
  | _, _, _, _ => False
def gFind : G2
  | .str a, .str b, G, Q => Q (.int (Txt.find a b)) G
  | _, _, _, _ => False
theorem pd_count {o : Expr} {fo : DE} {apos cpos : Pos} (ho : PDE C o fo) (he : PDE C e fe) (hs : starEach [e] C.X.env = [(false, eval e C.X.env)] := by rfl) (hbase : attributeBase o "count" C.X.env (eval o C.X.env) = eval o C.X.env := by rfl) (hline : (apos.endLine == cpos.line) = true := by rfl) :
    PDE C (.Call (.Attribute o "count" apos) [e] [] cpos) (dM1 gCount fo fe) := by
  refine peI (pe_m1 PySem.F.slot_str_count PySem.F.type_str_count mt_count ho he hs hbase hline) (tE_M1 ?_)
  intro M G H x y dx dy Q P sr rx ry h k
  cases rx <;> first | exact False.elim h | (cases ry <;> first | exact False.elim h | exact ⟨_, _, rfl, rfl, here sr k (.int _) h⟩)
theorem pd_find {o : Expr} {fo : DE} {apos cpos : Pos} (ho : PDE C o fo) (he : PDE C e fe) (hs : starEach [e] C.X.env = [(false, eval e C.X.env)] := by rfl) (hbase : attributeBase o "find" C.X.env (eval o C.X.env) = eval o C.X.env := by rfl) (hline : (apos.endLine == cpos.line) = true := by rfl) :
    PDE C (.Call (.Attribute o "find" apos) [e] [] cpos) (dM1 gFind fo fe) := by
  refine peI (pe_m1 PySem.F.slot_str_find PySem.F.type_str_find mt_find ho he hs hbase hline) (tE_M1 ?_)
  intro M G H x y dx dy Q P sr rx ry h k
  cases rx <;> first | exact False.elim h | (cases ry <;> first | exact False.elim h | exact ⟨_, _, rfl, rfl, here sr k (.int _) h⟩)
end
end FD

set_option Elab.async false
set_option linter.all false
set_option maxRecDepth 100000
set_option maxHeartbeats 4000000
set_option autoImplicit false
/-! The D layer, eleventh part: ranges over numbers of any size, zip, three stores at once, pass. -/
namespace FD
open PySem PySem.Spec PyProof.Rows L2
theorem turn_long {P : Program} {w : World} {K : PySem.W.Frag} {tg : Expr} (it : Addr) (lo : Int) (n : Nat) : Turn P w K tg (Itr lo n) [it] it (fun i h => IsLongIter h it (lo + (i : Nat) * 1) ((n : Int) - (i : Nat)) 1) where
  mem := by simp
  obj := fun i h st b hb => by
    have e : b = it := by simpa using hb
    subst e
    exact ⟨_, st, fun v z => by
      have z' : Data.fields _ = Data.cell v := z
      cases z'⟩
  keep := fun i h h' st k => k it (by simp) _ st
  item := by
    intro X hP hw hK hc i pins s σ H E I hf st hg
    subst hP hw hK
    obtain ⟨f0, f1, f2, f3, f4, f5⟩ := hf it (by simp)
    have W := Walks.longrange (prog := X.prog) (w := X.w) (I.ok.hd hc) it lo 1 n
    refine W.item i s _ _ hg st fun v h' tk hv st' kk => ?_
    obtain ⟨t, rfl⟩ := hv
    have I1 : Inv X pins σ H { s with heap := h', toks := tk } := I.turned (fun b o hb e => kk b o (by simpa using hb) e) f0 f1 f3 f4 f5
    refine ⟨_, rfl, go_of (s := { s with heap := h', toks := tk }) (n := "longrange_iterator") st' rfl rfl (by decide) ⟨.int (lo + i), H, I1, ⟨t, ?_⟩, ⟨rfl, rfl⟩, st', fun b hb => (hf b hb).1⟩⟩
    rw [Int.mul_one]
  done := by
    intro X hP hw hK hc i pins s σ H E I hf st hg
    subst hP hw hK
    obtain ⟨f0, f1, f2, f3, f4, f5⟩ := hf it (by simp)
    exact wpAny_pyNext_long_end (I.ok.hd hc) st (by have : n ≤ i := hg; omega) fun h' eb => ⟨rfl, I.turned (t' := s.toks) (fun b o hb e => eb b o hb e) f0 f1 f3 f4 f5⟩
  self := fun _ _ _ _ _ st h => wpAny_pyIter_longiter st h
section
variable {X : Cx} {tg : Expr}
theorem range_itW {pins : List (Addr × Obj)} {σ : L2.St} {H : Hp} {s : Shared} {R : It → Hp → Prop} {E : Value → Shared → Prop} {lo hi : Int} {t u v : Tok} {tk : Nat} (I : Inv X pins σ H s)
    (q : R (Itr lo (hi - lo).toNat) H) : wpAny (model X.prog X.w) X.A (pyIter (.ref s.heap.objs.size)) (PIE X pins σ tg R) E { s with heap := s.heap.push { cls := .type "range", data := .fields #[.int lo t, .int hi u, .int 1 v] }, toks := tk } := by
  have e1 : lo + ((0 : Nat) : Int) * 1 = lo := by simp
  have e2 : (((hi - lo).toNat : Nat) : Int) - ((0 : Nat) : Int) = Builtin.Range.rangeSize lo hi 1 := by rw [rangeSize_one]; split <;> omega
  have I1 : Inv X pins σ H { s with heap := s.heap.push { cls := .type "range", data := .fields #[.int lo t, .int hi u, .int 1 v] }, toks := tk } := I.kept fun b o e => Heap.get?_push_of_some _ e
  have F : ∀ b ∈ [(s.heap.push { cls := .type "range", data := .fields #[.int lo t, .int hi u, .int 1 v] }).objs.size], FpOk X pins H b := fun b hb => by
    have e : b = (s.heap.push { cls := .type "range", data := .fields #[.int lo t, .int hi u, .int 1 v] }).objs.size := by simpa using hb
    subst e
    exact I1.fpOk (Nat.le_refl _) (I1.hok.fresh (Nat.le_refl _))
  cases hs : Builtin.Range.small lo hi 1 with
  | true =>
    refine wpAny_pyIter_range (IsRange.new ..) hs ?_
    refine ⟨(s.heap.push { cls := .type "range", data := .fields #[.int lo t, .int hi u, .int 1 v] }).objs.size, [(s.heap.push { cls := .type "range", data := .fields #[.int lo t, .int hi u, .int 1 v] }).objs.size], _, _, H, rfl,
      I1.kept (t' := tk) fun b o e => Heap.get?_push_of_some _ e, turn_range _ lo (hi - lo).toNat, ?_, F, q⟩
    show IsRangeIter _ _ (lo + ((0 : Nat) : Int) * 1) ((((hi - lo).toNat : Nat) : Int) - ((0 : Nat) : Int)) 1
    rw [e1, e2]
    exact Heap.get?_push_size _ rfl
  | false =>
    refine wpAny_pyIter_longrange (IsRange.new ..) hs ?_
    refine ⟨(s.heap.push { cls := .type "range", data := .fields #[.int lo t, .int hi u, .int 1 v] }).objs.size, [(s.heap.push { cls := .type "range", data := .fields #[.int lo t, .int hi u, .int 1 v] }).objs.size], _, _, H, rfl,
      I1.kept (t' := tk) fun b o e => Heap.get?_push_of_some _ e, turn_long _ lo (hi - lo).toNat, ?_, F, q⟩
    show IsLongIter _ _ (lo + ((0 : Nat) : Int) * 1) ((((hi - lo).toNat : Nat) : Int) - ((0 : Nat) : Int)) 1
    rw [e1, e2]
    exact Heap.get?_push_size _ rfl
def iRng2W (ta : TA) : TI := fun σ H R => ta σ H fun vs H1 => ∃ i j : Int, vs = [.int i, .int j] ∧ R (Itr i (j - i).toNat) H1
theorem pi_range2W {a b : Expr} {ta : TA} {p pos : Pos} (hg : Gl X "range") (hm : X.mg "range" = none) (ha : PA X [a, b] ta) (hs : starEach [a, b] X.env = [(false, eval a X.env), (false, eval b X.env)] := by rfl) (hs2 : starEach [b] X.env = [(false, eval b X.env)] := by rfl) :
    PI X tg (.Call (.Name "range" p) [a, b] [] pos) (iRng2W ta) := by
  refine ⟨fun pins s σ H R I h => ?_⟩
  refine Call_ (ld_blt I hg hm boot_range (PyProof.Rows.callWith_type1 (thn (ha.run pos pins s σ H _ I h) fun us s1 ⟨vs, H1, I1, r1, q1⟩ => ?_) (by rw [hs, hs2]) (by rw [hs2]; rfl)))
  obtain ⟨i, j, e, q⟩ := q1
  subst e
  cases r1 with
  | cons r rr =>
    cases rr with
    | cons r' rr =>
      cases rr
      obtain ⟨t, rfl⟩ := r
      obtain ⟨t', rfl⟩ := r'
      exact call_range_2 (range_itW I1 q)
end
section
variable {C : Dx} {pos : Pos} {a b c e : Expr} {fa fb fc fe : DE} {es : List Expr} {fs fi : DA} {tg : Expr}
/-- ranges of any size -/
def dItW2 (fs : DA) : DA := fun ρ G Q E => fs ρ G (fun ds G1 => match ds with
  | [.int i, .int j] => Q (upto i (j - i).toNat) G1
  | _ => False) E
theorem pdi_range2W {p : Pos} (hm : C.X.mg "range" = none) (ha : PDA C [a, b] fs) (hg : Gl C.X "range" := by rfl) (hs : starEach [a, b] C.X.env = [(false, eval a C.X.env), (false, eval b C.X.env)] := by rfl) (hs2 : starEach [b] C.X.env = [(false, eval b C.X.env)] := by rfl) :
    PDI C tg (.Call (.Name "range" p) [a, b] [] pos) (dItW2 fs) := by
  refine piI (pi_range2W hg hm ha hs hs2) ?_
  rintro σ H P ⟨M, ρ, G, Q, E, er, sr, ew, h, k⟩
  refine ⟨M, ρ, G, _, E, er, sr, ew, h, fun vs H1 ds G1 g1 r1 q1 => ?_⟩
  match ds, q1 with
  | [.int i, .int j], q1 =>
    obtain ⟨v, w, rfl, r2, r3⟩ := rep2 r1
    cases r2; cases r3
    exact ⟨i, j, rfl, k _ _ _ _ g1 (walks_R _ _) q1⟩
end
end FD

set_option Elab.async false
set_option linter.all false
set_option maxRecDepth 100000
set_option maxHeartbeats 4000000
set_option autoImplicit false
/-! While an exception is handled: ends of lists, tuples and zip, a pair unpacked. -/
namespace FD
open PySem PySem.Spec PyProof.Rows L2 HotX L2H
section
variable {prog : Program} {w : World} {A : Around} {E : Value → Shared → Prop} {s : Shared}
/-- a list's iterator ends -/
theorem nextOf_end_hot {it l x1 : Addr} {i : Nat} {items : Array Value} {Q : Value → Shared → Prop} (hot : HotAt A x1 s.heap) (hne : x1 ≠ it) (hit : s.heap.IsListIter it l i) (hl : s.heap.IsList l items) (hx : items[i]? = none)
    (hE : ∀ h' e, Heap.ExtBut it s.heap h' → (∃ o, h'.get? e = some o ∧ o.cls = .type "StopIteration") → E (.ref e) { s with heap := h' }) : wpAny (model prog w) A (Builtin.SmallTypes.nextOf (.ref it)) Q E s := by
  obtain ⟨o, ho, hc, hd⟩ := id hit
  obtain ⟨ol, hol, _, nl, hdl⟩ := hl
  obtain ⟨hh, o1, vs1, h1, d1, c1⟩ := hot
  unfold Builtin.SmallTypes.nextOf
  refine wpAny_bind (wpAny_callSpecial?_slot (name := Str.ofString "__next__") hit.typeIs slot_listiter_next (wpAny_call_entry slot_listiter_next hit.typeIs entry_listiter_next ?_ (args_listiter_next _)))
  show wpAny _ _ (field (.ref it) 0 >>= _) _ _ s
  refine wpAny_bind (wpAny_field ho hd (x := .ref l) rfl ?_)
  show wpAny _ _ (if (Value.ref l == Value.none) = true then _ else _) _ _ s
  rw [if_neg (show ¬ ((Value.ref l == Value.none) = true) from Bool.false_ne_true)]
  show wpAny _ _ (field (.ref it) 1 >>= _) _ _ s
  refine wpAny_bind (wpAny_field ho hd (x := .int i 0) rfl ?_)
  show wpAny _ _ (seqItems? (.ref l) >>= _) _ _ s
  refine wpAny_bind (wpAny_seqItems hol hdl ?_)
  simp only [Int.toNat_natCast, hx]
  refine wpAny_bind (wpAny_rule (wpAny_bind (wpAny_setField ho hd (by simp) ?_)))
  show wpAny _ _ (newExc (.type "StopIteration") [] >>= _) _ _ _
  refine wpAny_bind ?_
  simp only [newExc, newTuple]
  refine wpAny_bind (wpAny_newObj_type ?_ (by size_fits))
  refine wpAny_bind (m := firstArgMember _ _) (wpAny_of_eq (a := Value.none) (by first | rfl | (simp only [firstArgMember]; rfl)) ?_)
  refine wpAny_newObj_type ?_ (by size_fits)
  have st : ∀ (f : Obj → Obj) b ob, b ≠ it → s.heap.get? b = some ob → (s.heap.update it f).get? b = some ob := fun f b ob hb e => (Heap.SameBut.update s.heap it f).extBut b ob hb e
  refine raiseNew_hot ⟨hh, o1, vs1, Heap.get?_push_of_some _ (Heap.get?_push_of_some _ (st _ _ _ hne h1)), d1, c1⟩ (Nat.ne_of_lt (Heap.lt_size (Heap.get?_push_of_some _ (st _ _ _ hne h1)))) (Heap.get?_push_size _ rfl) rfl (by first | (simp; done) | (simp; omega) | (simp only [Array.size_append]; simp; omega)) ?_
  refine hE _ _ (fun b ob hb e => ?_) ⟨_, Heap.get?_update_self _ (Heap.get?_push_size _ rfl) rfl, rfl⟩
  rw [Heap.get?_update_other _ _ (Nat.ne_of_gt (Heap.lt_size (Heap.get?_push_of_some _ (st _ b ob hb e))))]
  exact Heap.get?_push_of_some _ (Heap.get?_push_of_some _ (st _ b ob hb e))
/-- a tuple's iterator ends -/
theorem tuple_end_hot {it t x1 : Addr} {i : Nat} {items : Array Value} {Q : Option Value → Shared → Prop} (hot : HotAt A x1 s.heap) (hne : x1 ≠ it) (hit : IsTupIter s.heap it t i) (ht : IsTup s.heap t items) (hx : items[i]? = none)
    (hQ : ∀ h', Heap.ExtBut it s.heap h' → Q none { s with heap := h' }) : wpAny (model prog w) A (pyNext (.ref it)) Q E s := by
  obtain ⟨o, ho, hc, hd⟩ := id hit
  obtain ⟨ol, hol, _, nl, hdl⟩ := ht
  obtain ⟨hh, o1, vs1, h1, d1, c1⟩ := hot
  unfold pyNext
  refine wpAny_bind (wpAny_attempt (wpAny_callSpecial?_slot (name := Str.ofString "__next__") hit.typeIs slot_tupleiter_next (wpAny_call_entry slot_tupleiter_next hit.typeIs entry_tupleiter_next ?_ (args_tupleiter_next _))))
  show wpAny _ _ (field (.ref it) 0 >>= _) _ _ s
  refine wpAny_bind (wpAny_field ho hd (x := .ref t) rfl ?_)
  show wpAny _ _ (if (Value.ref t == Value.none) = true then _ else _) _ _ s
  rw [if_neg (show ¬ ((Value.ref t == Value.none) = true) from Bool.false_ne_true)]
  show wpAny _ _ (field (.ref it) 1 >>= _) _ _ s
  refine wpAny_bind (wpAny_field ho hd (x := .int i 0) rfl ?_)
  show wpAny _ _ (seqItems? (.ref t) >>= _) _ _ s
  refine wpAny_bind (wpAny_seqItems hol hdl ?_)
  simp only [Int.toNat_natCast, hx]
  refine wpAny_bind (wpAny_rule (wpAny_bind (wpAny_setField ho hd (by simp) ?_)))
  show wpAny _ _ (newExc (.type "StopIteration") [] >>= _) _ _ _
  refine wpAny_bind ?_
  simp only [newExc, newTuple]
  refine wpAny_bind (wpAny_newObj_type ?_ (by size_fits))
  refine wpAny_bind (m := firstArgMember _ _) (wpAny_of_eq (a := Value.none) (by first | rfl | (simp only [firstArgMember]; rfl)) ?_)
  refine wpAny_newObj_type ?_ (by size_fits)
  have st : ∀ (f : Obj → Obj) b ob, b ≠ it → s.heap.get? b = some ob → (s.heap.update it f).get? b = some ob := fun f b ob hb e => (Heap.SameBut.update s.heap it f).extBut b ob hb e
  refine raiseNew_hot ⟨hh, o1, vs1, Heap.get?_push_of_some _ (Heap.get?_push_of_some _ (st _ _ _ hne h1)), d1, c1⟩ (Nat.ne_of_lt (Heap.lt_size (Heap.get?_push_of_some _ (st _ _ _ hne h1)))) (Heap.get?_push_size _ rfl) rfl (by first | (simp; done) | (simp; omega) | (simp only [Array.size_append]; simp; omega)) ?_
  refine wpAny_bind (wpAny_isInstance (T := "StopIteration") (b := true) ⟨_, Heap.get?_update_self _ (Heap.get?_push_size _ rfl) rfl, rfl⟩ isSubtype_stop ?_)
  refine wpAny_pure (hQ _ fun b ob hb e => ?_)
  rw [Heap.get?_update_other _ _ (Nat.ne_of_gt (Heap.lt_size (Heap.get?_push_of_some _ (st _ b ob hb e))))]
  exact Heap.get?_push_of_some _ (Heap.get?_push_of_some _ (st _ b ob hb e))
/-- a tuple taken apart -/
theorem assign_Tuple_hot {env : Env} {elts : List Expr} {k : Nat} {pos : Pos} {t x1 : Addr} {items : Array Value} {Q : Unit → Shared → Prop} (hot : HotAt A x1 s.heap) (ht : IsTup s.heap t items) (hn : (assignEach elts env).length = items.size) (hstar : (assignEach elts env).findIdx? (·.1) = none)
    (h : ∀ h', Heap.ExtBut s.heap.objs.size s.heap h' → wpAny (model prog w) A (assignInOrder ((assignEach elts env).map (·.2)) items.toList) Q E { s with heap := h' }) : wpAny (model prog w) A (assign (.Tuple elts k pos) env (.ref t)) Q E s := by
  rw [assign_Tuple]
  refine wpAny_bind (wpAny_standAt ?_)
  unfold unpack
  rw [hn, hstar]
  refine wpAny_bind (wpAny_holding ?_)
  have hlt : t ≠ s.heap.objs.size := by obtain ⟨o, ho, _⟩ := ht; exact Nat.ne_of_lt (Heap.lt_size ho)
  unfold unpackItems
  refine wpAny_bind ?_
  unfold notIterableAtAll
  refine wpAny_bind (wpAny_specialOf ht.typeIs slot_tuple_iter.lookup ?_)
  refine wpAny_pure ?_
  simp only [Bool.false_eq_true, if_false]
  refine wpAny_bind (wpAny_holding (iter_tuple ht ?_))
  refine wpAny_bind (wpAny_holding (draw_tuple hlt items.size 0 _ _ ⟨_, Heap.get?_push_size _ rfl, rfl, rfl⟩ (ht.push _) (by omega) fun h₁ hit₁ hs₁ => ?_))
  have hall : List.take items.size (List.drop 0 items.toList) = items.toList := by
    rw [List.drop_zero]; exact List.take_of_length_le (by simp)
  rw [hall, if_neg (by simp)]
  have ht₁ : IsTup h₁ t items := (ht.push _).extBut hs₁.extBut hlt
  obtain ⟨hh, o1, vs1, h1, d1, c1⟩ := hot
  have hx : x1 ≠ s.heap.objs.size := Nat.ne_of_lt (Heap.lt_size h1)
  have h1' : h₁.get? x1 = some o1 := hs₁.extBut _ _ hx (Heap.get?_push_of_some _ h1)
  refine wpAny_bind (wpAny_holding (tuple_end_hot (s := { s with heap := h₁ }) ⟨hh, o1, vs1, h1', d1, c1⟩ hx hit₁ ht₁ (by simp) fun h₂ he₂ => ?_))
  simp only [Option.isSome_none, Bool.false_eq_true, if_false]
  exact wpAny_pure (h h₂ fun b o hb e => he₂ b o hb (hs₁.extBut b o hb (Heap.get?_push_of_some _ e)))
end
end FD

set_option Elab.async false
set_option linter.all false
set_option maxRecDepth 100000
set_option maxHeartbeats 4000000
set_option autoImplicit false
/-! While an exception is handled: zip of two lists of one length, walked; a comprehension over it. -/
namespace FD
open PySem PySem.Spec PyProof.Rows L2 HotX L2H
/-- x1's object stands there, its context None -/
def CtxAt (x1 : Addr) (h : Heap) : Prop := ∃ (o : Obj) (vs : Array Value), h.get? x1 = some o ∧ o.data = .fields vs ∧ vs[2]? = some .none
theorem drawsH {prog : Program} {w : World} {A : Around} {x1 : Addr} (hh : A.handled = some (.ref x1)) (it l : Addr) (hne : l ≠ it) (hx : x1 ≠ it) (items : Array Value) :
    Draws prog w A it [it, l, x1] items.size (fun i v => items[i]? = some v) (fun i h => (h.IsListIter it l i ∧ h.IsList l items) ∧ CtxAt x1 h) where
  live := fun _ _ st => let ⟨o, ho, _⟩ := st.1.1; ⟨o, ho⟩
  frame := fun _ _ _ st hk => by
    obtain ⟨⟨h1, h2⟩, o, vs, h3, h4⟩ := st
    exact ⟨⟨h1.at fun o e => hk it (by simp) o e, h2.at fun o e => hk l (by simp) o e⟩, o, vs, hk x1 (by simp) o h3, h4⟩
  item := fun i s Q E hi st hQ => by
    obtain ⟨⟨h1, h2⟩, o, vs, h3, h4⟩ := st
    refine wpAny_nextOf_list_item h1 h2 (x := items[i]) (by simp [hi]) fun h' hit' hs' => ?_
    exact hQ _ h' s.toks (by simp [hi]) ⟨⟨hit', h2.extBut hs'.extBut hne⟩, o, vs, hs'.extBut _ _ hx h3, h4⟩ hs'
  done := fun s Q E st hE => by
    obtain ⟨⟨h1, h2⟩, o, vs, h3, h4, h5⟩ := st
    exact nextOf_end_hot ⟨hh, o, vs, h3, h4, h5⟩ hx h1 h2 (by simp) hE
/-- an iterator's turns while x1 is handled -/
structure TurnX (x1 : Addr) (P : Program) (w : World) (K : PySem.W.Frag) (tg : Expr) (J : It) (fp : List Addr) (it : Addr) (tn : Nat → Heap → Prop) : Prop where
  mem : it ∈ fp
  obj : ∀ i h, tn i h → ∀ b ∈ fp, ∃ o, h.get? b = some o ∧ ∀ v, o.data ≠ .cell v
  keep : ∀ i h h', tn i h → (∀ b ∈ fp, ∀ o, h.get? b = some o → h'.get? b = some o) → tn i h'
  item : ∀ (X : Cx), X.prog = P → X.w = w → X.K = K → ∀ (i : Nat) (pins : List (Addr × Obj)) (s : Shared) (σ : L2.St) (H : Hp) (E : Value → Shared → Prop), HotAt X.A x1 s.heap → Inv X pins σ H s → (∀ b ∈ fp, FpOk X pins H b) → tn i s.heap → J.go i H →
    wpAny (model P w) X.A (pyNext (.ref it)) (fun r s1 => ∃ u, r = some u ∧
      wpAny (model P w) X.A (letOwnedTupleGo tg (.ref it) u) (fun _ s2 => ∃ x H', Inv X pins σ H' s2 ∧ RelV x u ∧ J.yld i H x H' ∧ tn (i + 1) s2.heap ∧ ∀ b ∈ fp, H' b = none) E s1) E s
  done : ∀ (X : Cx), X.prog = P → X.w = w → X.K = K → ∀ (i : Nat) (pins : List (Addr × Obj)) (s : Shared) (σ : L2.St) (H : Hp) (E : Value → Shared → Prop), HotAt X.A x1 s.heap → Inv X pins σ H s → (∀ b ∈ fp, FpOk X pins H b) → x1 ∉ fp → tn i s.heap → J.stop i H →
    wpAny (model P w) X.A (pyNext (.ref it)) (fun r s1 => r = none ∧ Inv X pins σ H s1) E s
  self : ∀ (A : Around) (i : Nat) (s : Shared) (Q : Value → Shared → Prop) (E : Value → Shared → Prop), tn i s.heap → Q (.ref it) s → wpAny (model P w) A (pyIter (.ref it)) Q E s
/-- two lists of one length as they stand, the items in new pairs -/
def Izh (K : PySem.W.Frag) (a b : Addr) : It :=
  ⟨fun i H => ∃ (xs ys : List V) (x y : V), SqL K H a xs ∧ SqL K H b ys ∧ xs[i]? = some x ∧ ys[i]? = some y,
    fun i H v H' => ∃ T x y, v = .ref T ∧ H T = none ∧ H' = upd H T (.tup [x, y]) ∧ (∀ xs, SqL K H a xs → xs[i]? = some x) ∧ ∀ ys, SqL K H b ys → ys[i]? = some y,
    fun i H => ∃ xs ys : List V, SqL K H a xs ∧ SqL K H b ys ∧ xs.length = i ∧ ys.length = i⟩
theorem turn_zipX {x1 : Addr} {P : Program} {w : World} {K : PySem.W.Frag} {elts : List Expr} {kk : Nat} {tpos : Pos} {a b z TI TO i1 i2 : Addr} (D : ZipApart z TI TO i1 i2 a b) :
    TurnX x1 P w K (.Tuple elts kk tpos) (Izh K a b) [z, TI, TO, i1, i2] z (fun i h => IsZip h z TI TO .none ∧ IsPair h TI (.ref i1) (.ref i2) ∧ (∃ x y, IsPair h TO x y) ∧ h.IsListIter i1 a i ∧ h.IsListIter i2 b i) where
  mem := by simp
  obj := fun i h st c hc => by
    obtain ⟨hz, hTI, ⟨x, y, hTO⟩, ⟨o1, e1, _, d1⟩, ⟨o2, e2, _, d2⟩⟩ := st
    simp only [List.mem_cons, List.not_mem_nil, or_false] at hc
    rcases hc with q | q | q | q | q <;> subst q
    · exact ⟨_, hz, fun v q => nomatch q⟩
    · exact ⟨_, hTI, fun v q => nomatch q⟩
    · exact ⟨_, hTO, fun v q => nomatch q⟩
    · exact ⟨o1, e1, fun v q => by rw [d1] at q; cases q⟩
    · exact ⟨o2, e2, fun v q => by rw [d2] at q; cases q⟩
  keep := fun i h h' st k => by
    obtain ⟨hz, hTI, ⟨x, y, hTO⟩, h1, h2⟩ := st
    exact ⟨k z (by simp) _ hz, k TI (by simp) _ hTI, ⟨x, y, k TO (by simp) _ hTO⟩, h1.at fun o q => k i1 (by simp) o q, h2.at fun o q => k i2 (by simp) o q⟩
  item := by
    intro X hP hw hK i pins s σ H E hot I hf st hg
    subst hP hw hK
    obtain ⟨hz, hTI, ⟨x0, y0, hTO⟩, h1, h2⟩ := st
    obtain ⟨xs, ys, x, y, hqx, hqy, hx, hy⟩ := hg
    obtain ⟨its, rv, p, _⟩ := I.list hqx
    obtain ⟨its2, rv2, p2, _⟩ := I.list hqy
    obtain ⟨u, hu, ru⟩ := rv.get hx
    obtain ⟨u2, hu2, ru2⟩ := rv2.get hy
    have hzl : z < s.heap.objs.size := Heap.lt_size hz
    have old : ∀ c ∈ [z, TI, TO, i1, i2], c < s.heap.objs.size := fun c hc => by
      simp only [List.mem_cons, List.not_mem_nil, or_false] at hc
      obtain ⟨_, e1, _⟩ := id h1
      obtain ⟨_, e2, _⟩ := id h2
      rcases hc with q | q | q | q | q <;> subst q
      · exact hzl
      · exact Heap.lt_size hTI
      · exact Heap.lt_size hTO
      · exact Heap.lt_size e1
      · exact Heap.lt_size e2
    refine wpAny_pyNext_zip_item D hz hTI hTO h1 h2 p.isList p2.isList (x := u) (y := u2) (by simpa using hu) (by simpa using hu2) fun h' z' TO' h1' h2' hT hsz hk => ?_
    refine ⟨_, rfl, wpAny_letOwnedTupleGo_zip (s := { s with heap := h' }) z' fun h'' z'' sb => ?_⟩
    have hT2 : h''.get? s.heap.objs.size = some { cls := .type "tuple", data := .seq #[u, u2] } := (sb.2 _ (Nat.ne_of_gt hzl)).trans hT
    have new : ObjOk X.prog X.w (upd H s.heap.objs.size (.tup [x, y])) h'' s.heap.objs.size (.tup [x, y]) := ⟨by show 2 ≤ sizeLine; decide, [u, u2], .cons ru (.cons ru2 .nil), ⟨_, hT2, rfl, _, rfl⟩⟩
    have I1 : Inv X pins σ (upd H s.heap.objs.size (.tup [x, y])) { s with heap := h'' } :=
      I.turnedNew (t' := s.toks) (ch := [z, TI, TO, i1, i2]) (fun c o hb q => (sb.2 c (fun q' => hb (by simp [q']))).trans (hk c o (fun q' => hb (by simp [q'])) (fun q' => hb (by simp [q'])) (fun q' => hb (by simp [q'])) (fun q' => hb (by simp [q'])) q)) hf (Nat.le_refl _) new
    refine ⟨.ref s.heap.objs.size, _, I1, rfl, ⟨_, x, y, rfl, I.hok.fresh (Nat.le_refl _), rfl, fun l hl => by rw [I.list_inj hl hqx]; exact hx, fun l hl => by rw [I.list_inj hl hqy]; exact hy⟩, ⟨z'', (sb.2 _ D.TIz).trans (hk _ _ D.TIz D.TITO D.TIi1 D.TIi2 hTI), ⟨u, u2, (sb.2 _ D.TOz).trans TO'⟩, h1'.at fun o q => (sb.2 _ D.i1z).trans q, h2'.at fun o q => (sb.2 _ D.i2z).trans q⟩, fun c hcm => ?_⟩
    rw [upd_ne (Nat.ne_of_lt (old c hcm))]
    exact (hf c hcm).1
  done := by
    intro X hP hw hK i pins s σ H E hot I hf hx1 st hg
    subst hP hw hK
    obtain ⟨hz, hTI, ⟨x0, y0, hTO⟩, h1, h2⟩ := st
    obtain ⟨xs, ys, hqx, hqy, hl1, hl2⟩ := hg
    obtain ⟨its, rv, p, _⟩ := I.list hqx
    obtain ⟨its2, rv2, p2, _⟩ := I.list hqy
    have l1 := rv.length
    have l2 := rv2.length
    obtain ⟨hh, o, vs, e1, e2, e3⟩ := hot
    simp only [List.mem_cons, List.not_mem_nil, or_false, not_or] at hx1
    have D1 := drawsH (prog := X.prog) (w := X.w) (A := X.A.in1) (x1 := x1) hh i1 a D.l1i1 hx1.2.2.2.1 its.toArray
    have D2 := drawsH (prog := X.prog) (w := X.w) (A := X.A.in1) (x1 := x1) hh i2 b D.l2i2 hx1.2.2.2.2 its2.toArray
    have m3 : ∀ {c u v t : Addr}, c ≠ u → c ≠ v → c ≠ t → c ∉ [u, v, t] := fun {c u v t} q1 q2 q3 hm => by
      simp only [List.mem_cons, List.not_mem_nil, or_false] at hm
      rcases hm with q | q | q
      · exact q1 q
      · exact q2 q
      · exact q3 q
    have S : ZipSep2 z TI TO i1 i2 [i1, a, x1] [i2, b, x1] := ⟨D.TIz, D.TOz, D.TITO, D.TIi1, by simp, m3 (Ne.symm D.i1z) (Ne.symm D.l1z) (Ne.symm hx1.1), m3 D.TOi1 (Ne.symm D.l1TO) (Ne.symm hx1.2.2.1),
      D.TIi2, by simp, m3 (Ne.symm D.i2z) (Ne.symm D.l2z) (Ne.symm hx1.1), m3 D.TOi2 (Ne.symm D.l2TO) (Ne.symm hx1.2.2.1), m3 D.i12 (Ne.symm D.l2i1) (Ne.symm hx1.2.2.2.1), m3 (Ne.symm D.i12) (Ne.symm D.l1i2) (Ne.symm hx1.2.2.2.2)⟩
    refine wpAny_pyNext_zipD2_end S D1 D2 hz hTI hTO ⟨⟨h1, p.isList⟩, o, vs, e1, e2, e3⟩ ⟨⟨h2, p2.isList⟩, o, vs, e1, e2, e3⟩ (by simp; omega) (by simp; omega) (.inl (by simp; omega)) fun h' tk hk => ⟨rfl, I.turnedL (t' := tk) (ch := [z, TI, TO, i1, i2]) (fun c o hb q => hk c o (fun q' => hb (by simp [q'])) (fun q' => hb (by simp [q'])) (fun q' => hb (by simp [q'])) (fun q' => hb (by simp [q'])) q) hf⟩
  self := fun A i s Q E st h => wpAny_pyIter_zip st.1 h
/-- an iterator has come -/
def PIEX (x1 : Addr) (X : Cx) (pins : List (Addr × Obj)) (σ : L2.St) (tg : Expr) (R : It → Hp → Prop) (itv : Value) (s2 : Shared) : Prop :=
  ∃ (it : Addr) (fp : List Addr) (tn : Nat → Heap → Prop) (J : It) (H' : Hp), itv = .ref it ∧ Inv X pins σ H' s2 ∧ TurnX x1 X.prog X.w X.K tg J fp it tn ∧ tn 0 s2.heap ∧ (∀ b ∈ fp, FpOk X pins H' b) ∧ R J H'
structure PIX (X : Cx) (tg iter : Expr) (wi : TI) : Prop where
  run : ∀ (x1 : Addr) (pins : List (Addr × Obj)) (s : Shared) (σ : L2.St) (H : Hp) (R : It → Hp → Prop), Inv X pins σ H s → wi σ H R →
    wpAny (model X.prog X.w) X.A (eval iter X.env) (fun v s1 => wpAny (model X.prog X.w) X.A (pyIter v) (PIEX x1 X pins σ tg R) X.xe s1) X.xe s
def iZipX (K : PySem.W.Frag) (ta : TA) : TI := fun σ H R => ta σ H fun vs H1 => ∃ a b xs ys, vs = [.ref a, .ref b] ∧ SqL K H1 a xs ∧ SqL K H1 b ys ∧ R (Izh K a b) H1
theorem pi_zipX {X : Cx} {e e2 : Expr} {ta : TA} {p pos tpos : Pos} {elts : List Expr} {kk : Nat} (hg : Gl X "zip") (hm : X.mg "zip" = none) (ha : PA X [e, e2] ta)
    (hs : starEach [e, e2] X.env = (false, eval e X.env) :: starEach [e2] X.env := by rfl) (hpl : (backTo pos (starEach [e2] X.env)).any (·.1) = false := by rfl) :
    PIX X (.Tuple elts kk tpos) (.Call (.Name "zip" p) [e, e2] [] pos) (iZipX X.K ta) := by
  refine ⟨fun x1 pins s σ H R I h => ?_⟩
  refine Call_ (ld_blt I hg hm PyProof.Rows.boot_zip (PyProof.Rows.callWith_type1 (thn (ha.run pos pins s σ H _ I h) fun us s1 ⟨vs, H1, I1, r1, q1⟩ => ?_) hs hpl))
  obtain ⟨a, b, xs, ys, ex, hqx, hqy, q⟩ := q1
  subst ex
  cases r1 with
  | cons r rr =>
    cases rr with
    | cons r' rr =>
      cases rr
      cases r
      cases r'
      obtain ⟨its, rv, p1, _⟩ := I1.list hqx
      obtain ⟨its2, rv2, p2, _⟩ := I1.list hqy
      refine call_zip_2 p1.isList p2.isList fun h' hz hTI hTO h1 h2 hsz hk => wpAny_pyIter_zip hz ?_
      refine ⟨s1.heap.objs.size + 4, [s1.heap.objs.size + 4, s1.heap.objs.size + 2, s1.heap.objs.size + 3, s1.heap.objs.size, s1.heap.objs.size + 1], _, _, H1, rfl, I1.kept (t' := s1.toks) hk, turn_zipX (PySem.W.ktu_apart s1.heap.objs.size a b p1.lt p2.lt), ⟨hz, hTI, ⟨_, _, hTO⟩, h1, h2⟩, fun c hcm => ?_, q⟩
      have hle : s1.heap.objs.size ≤ c := by
        simp only [List.mem_cons, List.not_mem_nil, or_false] at hcm
        rcases hcm with z | z | z | z | z <;> rw [z] <;> first | exact Nat.le_add_right _ _ | exact Nat.le_refl _
      exact I1.fpOk hle (I1.hok.fresh hle)
end FD

set_option Elab.async false
set_option linter.all false
set_option maxRecDepth 100000
set_option maxHeartbeats 4000000
set_option autoImplicit false
/-! While an exception is handled: a comprehension. -/
namespace FD
open PySem PySem.Spec PyProof.Rows L2 HotX L2H
/-- the block's context, the handled exception pinned -/
abbrev blkH (X : Cx) (s : Shared) (H : Hp) (scope : Scope) (cenv : Env) (fp : List Addr) (p : Addr × Obj) : Cx := { X.blk s H scope cenv fp with pn := [p] }
section
variable {X : Cx} {pins : List (Addr × Obj)} {σ : L2.St} {H : Hp} {s : Shared}
theorem blkPin {s' : Shared} {H' : Hp} {scope : Scope} {ce : Env} {fp : List Addr} {p : Addr × Obj} (I : Inv (X.blk s' H' scope ce fp) [] σ H s)
    (hp : s.heap.get? p.1 = some p.2 ∧ H p.1 = none ∧ p.1 ≠ ce.locals ∧ p.1 ∉ (X.blk s' H' scope ce fp).fs ∧ ∀ v, p.2.data ≠ .cell v) : Inv (blkH X s' H' scope ce fp p) [] σ H s :=
  ⟨⟨I.ok.mod, I.ok.kind, I.ok.glob, I.ok.blt, I.ok.above, I.ok.inj, I.ok.has, I.ok.cab, I.ok.hd, I.ok.frames, I.ok.stk, I.ok.exf, I.ok.bs, I.ok.bsz, I.ok.noex, I.ok.exfs, I.ok.funs, I.ok.frf⟩, I.os, I.bare, I.base, I.loc, I.cell, I.free, I.freeC,
    fun q hq => by
      have e : q = p := by simpa using (show q ∈ [p] ++ ([] : List (Addr × Obj)) from hq)
      rw [e]; exact hp, I.hok, I.len⟩
/-- a pair taken apart -/
theorem pg_tupH {es : List Expr} {k : Nat} {pos : Pos} {t : TGs} {n : Nat} (hc : HotC X) (h : PGs X es t) (hn : (assignEach es X.env).length = n := by rfl) (hst : (assignEach es X.env).findIdx? (·.1) = none := by rfl) : PG X (.Tuple es k pos) (gTup X.K n t) := by
  refine ⟨fun pins s σ H v u Q I r hw => ?_⟩
  obtain ⟨a, xs, e1, hq, hl, hw⟩ := hw
  subst e1
  cases r
  obtain ⟨its, rv, ht, hz⟩ := I.tuple hq
  obtain ⟨x1, hot⟩ := hc.at I
  refine assign_Tuple_hot hot ht (by simp [hn, ← hl, rv.length]) hst fun h' hx => ?_
  have I1 : Inv X pins σ H { s with heap := h' } := I.kept (t' := s.toks) fun b o e => hx b o (Nat.ne_of_lt (Heap.lt_size e)) e
  exact h.run pins _ σ H xs _ Q I1 (by simpa using rv) hw
theorem lc_coreX {Q : VK} {elt tg iter : Expr} {ifs : List Expr} {scope : Scope} {own : List (Str × Nat)} {pos pos' : Pos} {wi : TI} {g : TG} {tt : L2.TT} {te : TE} {use : Option (Value → Sem Unit)} {Qf : Value → Shared → Prop}
    (hc : HotC X) (hN : X.N.Nodup) (I : Inv X pins σ H s) (hi : PIX X tg iter wi) (ok : BlkOk X.N X.env.scope scope own)
    (hg : ∀ (s : Shared) (H : Hp) (C : Addr) (cl : List (Str × Addr)) (fp : List Addr) (p : Addr × Obj), HotC (blkH X s H scope (compEnvC scope cl C X.env) fp p) → PG (blkH X s H scope (compEnvC scope cl C X.env) fp p) tg g)
    (ht : ∀ (s : Shared) (H : Hp) (C : Addr) (cl : List (Str × Addr)) (fp : List Addr) (p : Addr × Obj), PTs (blkH X s H scope (compEnvC scope cl C X.env) fp p) ifs tt)
    (he : ∀ (s : Shared) (H : Hp) (C : Addr) (cl : List (Str × Addr)) (fp : List Addr) (p : Addr × Obj), PE (blkH X s H scope (compEnvC scope cl C X.env) fp p) elt te) (hs : ∀ x, foldedSetIterable iter X.env x = pure x)
    (h : tLc wi g tt te (own.map (·.2)) σ H Q)
    (hRR : ∀ D C s' m H', Inv X pins σ H' s' → Q (.ref D) H' → s'.heap.Ns C m → FpOk X pins H' C → compPost (model X.prog X.w) X.A X.xe use Qf (.ref D) C (.ok .next) s') :
    wpAny (model X.prog X.w) X.A (comprehension (.ListComp elt [⟨tg, iter, ifs, 0⟩] scope pos) scope X.env pos' (newList []) false (eval iter X.env) use) Qf X.xe s := by
  obtain ⟨p, hot1, hpn⟩ := hc
  have hfree : ∀ y ∈ scope.names, y.2 = .free → ∃ c, X.env.cells.lookup y.1 = some c := fun y hy e => (ok.free y hy e).elim (fun k => I.ok.has _ (.inl k)) fun k => I.ok.has _ (.inr k)
  refine wpAny_comprehension_free (use := use) rfl hs (closure_ok hfree) ok.kind (fun y hy e => by rw [ok.uniq y hy, e]) (thn (hi.run p.1 pins s σ H _ I h) fun xv s1 hx => thn hx fun itv s2 h2 => ?_)
  obtain ⟨it, fp, tn, J, H2, e, I2, T, st2, f2, q⟩ := h2
  subst e
  refine wpAny_newObj_type (newEnv_comp ?_) (by show 0 ≤ sizeLine; decide)
  generalize hD : s2.heap.objs.size = D
  obtain ⟨W, ⟨m0, w0⟩, turn⟩ := q D (I2.hok.fresh (Nat.le_of_eq hD))
  generalize hs3 : ({ s2 with heap := s2.heap.push { cls := .type "list", data := .seq ([] : List Value).toArray } } : Shared) = s3
  have h3 : s3.heap = s2.heap.push { cls := .type "list", data := .seq ([] : List Value).toArray } := by rw [← hs3]
  have I3 : Inv X pins σ (upd H2 D (.lst [])) s3 := by
    rw [← hs3]
    refine I2.laid (t' := s2.toks) (fun b o e => Heap.get?_push_of_some _ e) (Nat.le_of_eq hD) ⟨Nat.zero_le _, [], 0, .nil, ?_⟩
    rw [← hD]
    exact Heap.get?_push_size _ rfl
  have sz : ∀ b ∈ fp, b < s2.heap.objs.size := fun b hb => let ⟨o, e, _⟩ := T.obj _ _ st2 b hb; Heap.lt_size e
  have f3 : ∀ b ∈ fp, FpOk X pins (upd H2 D (.lst [])) b ∧ b < s3.heap.objs.size := fun b hb =>
    ⟨⟨by rw [upd_ne (by rw [← hD]; exact Nat.ne_of_lt (sz b hb))]; exact (f2 b hb).1, (f2 b hb).2⟩, by rw [h3, Heap.size_push]; exact Nat.lt_succ_of_lt (sz b hb)⟩
  have st3 : tn 0 s3.heap := T.keep _ _ _ st2 fun b _ o e => by rw [h3]; exact Heap.get?_push_of_some _ e
  have P3 := I3.pin p (List.mem_append_left _ hpn)
  have pfs : p.1 ∉ frs X.stack := fun hm => (List.mem_cons.mp (I3.stkSub p.1 hm)).elim P3.2.2.1 P3.2.2.2.1
  have pfp : p.1 ∉ fp := fun hm => (f3 p.1 hm).1.2.2.2.2.2 p (List.mem_append_left _ hpn) rfl
  have I4' := block_start I3 ok hN f3
  have nfp : ∀ b ∈ fp, (upd H2 D (.lst [])) b = none := fun b hb => (f3 b hb).1.1
  have pg := fun hh => hg s3 (upd H2 D (.lst [])) s3.heap.objs.size (cellsFrom (s3.heap.objs.size + 1) scope.names (cloFrom X.env.cells scope.names [])) fp p hh
  have pt := ht s3 (upd H2 D (.lst [])) s3.heap.objs.size (cellsFrom (s3.heap.objs.size + 1) scope.names (cloFrom X.env.cells scope.names [])) fp p
  have pe := he s3 (upd H2 D (.lst [])) s3.heap.objs.size (cellsFrom (s3.heap.objs.size + 1) scope.names (cloFrom X.env.cells scope.names [])) fp p
  show codeAny _ _ (.compStart (.ListComp elt [⟨tg, iter, ifs, 0⟩] scope pos) 0 (.ref it) (.ref D) (compEnvC scope (cellsFrom (s3.heap.objs.size + 1) scope.names (cloFrom X.env.cells scope.names [])) s3.heap.objs.size X.env)) (compPost (model X.prog X.w) X.A X.xe use Qf (.ref D) s3.heap.objs.size) { s3 with heap := pushCells (s3.heap.push { cls := .type "dict", data := .dict #[] }) scope.names }
  generalize hce : compEnvC scope (cellsFrom (s3.heap.objs.size + 1) scope.names (cloFrom X.env.cells scope.names [])) s3.heap.objs.size X.env = ce at I4' pg pt pe ⊢
  have cL : ce.locals = s3.heap.objs.size := by subst hce; rfl
  generalize hH3 : upd H2 D (.lst []) = H3 at I3 I4' pg pt pe w0 nfp f3 P3
  generalize hs4 : ({ s3 with heap := pushCells (s3.heap.push { cls := .type "dict", data := .dict #[] }) scope.names } : Shared) = s4 at I4' ⊢
  have kp4 : ∀ b o, s3.heap.get? b = some o → s4.heap.get? b = some o := fun b o e => by rw [← hs4]; exact pushCells_keeps _ _ _ _ (Heap.get?_push_of_some _ e)
  have pL : p.1 ≠ ce.locals := by rw [cL]; exact Nat.ne_of_lt (Heap.lt_size P3.1)
  have I4 : Inv (blkH X s3 H3 scope ce fp p) [] (wipe σ (own.map (·.2))) H3 s4 := blkPin I4' ⟨kp4 _ _ P3.1, P3.2.1, pL, pfs, P3.2.2.2.2⟩
  have hcb : HotC (blkH X s3 H3 scope ce fp p) := ⟨p, hot1, List.mem_singleton.mpr rfl⟩
  have hotAt : ∀ {σ' : L2.St} {H' : Hp} {s' : Shared}, Inv (blkH X s3 H3 scope ce fp p) [] σ' H' s' → HotAt X.A p.1 s'.heap := fun {σ' H' s'} I' => by
    obtain ⟨hh, v1, e1, c1⟩ := hot1
    exact ⟨hh, p.2, v1, (I'.pin p (List.mem_append_left _ (List.mem_singleton.mpr rfl))).1, e1, c1⟩
  have st4 : tn 0 s4.heap := T.keep _ _ _ st3 fun b _ o e => kp4 b o e
  have stat : ∀ {σ' : L2.St} {H' : Hp} {s' : Shared}, Inv (blkH X s3 H3 scope ce fp p) [] σ' H' s' → (∀ b ∈ fp, H' b = none) → ∀ b ∈ fp, FpOk (blkH X s3 H3 scope ce fp p) [] H' b := fun {σ' H' s'} I' hn b hb =>
    ⟨hn b hb, (I'.ok.exf b hb).1, I'.ok.exfs b hb, .inl hb, fun x c e => (I'.ok.exf b hb).2 x c e, fun q hq => by
      have e : q = p := by simpa using (show q ∈ [p] ++ ([] : List (Addr × Obj)) from hq)
      rw [e]; exact fun z => pfp (by rw [z]; exact hb)⟩
  have loop : codeAny (model X.prog X.w) X.A (.compLoop (.ListComp elt [⟨tg, iter, ifs, 0⟩] scope pos) 0 (.ref it) (.ref D) ce) (compPost (model X.prog X.w) X.A X.xe use Qf (.ref D) s3.heap.objs.size) s4 := by
    refine compLoop_any (fun n s' => ∃ i H', Inv (blkH X s3 H3 scope ce fp p) [] (wipe σ (own.map (·.2))) H' s' ∧ tn i s'.heap ∧ (∀ b ∈ fp, H' b = none) ∧ W i n H') ?_ m0 ⟨0, H3, I4, st4, nfp, w0⟩
    rintro n s5 ⟨i, H5, I5, st5, n5, w5⟩
    rcases turn i n H5 w5 with ⟨stop, qq⟩ | ⟨go, Nx, hNx, step⟩
    · refine thnF (T.done (blkH X s3 H3 scope ce fp p) rfl rfl rfl i [] s5 _ H5 (fun _ _ => False) (hotAt I5) I5 (stat I5 n5) pfp st5 stop) fun r s6 ⟨hr, I6⟩ => ?_
      subst hr
      have I7 : Inv X pins σ H5 s6 := I3.call' (ch := fp) I6.os I6.base I6.hok I6.bare fun b hb => ⟨(f3 b hb).1.2.2.2.1, (f3 b hb).1.2.1, (f3 b hb).1.2.2.2.2.1, (f3 b hb).1.2.2.2.2.2⟩
      have nC : H5 s3.heap.objs.size = none := by
        have z : H5 ce.locals = none := I6.free
        rwa [cL] at z
      obtain ⟨m, hn, _⟩ := I6.loc
      have hn : s6.heap.Ns ce.locals m := hn
      rw [cL] at hn
      exact hRR D s3.heap.objs.size s6 m H5 I7 qq hn (I3.fpOk (Nat.le_refl _) nC)
    · refine thnF (T.item (blkH X s3 H3 scope ce fp p) rfl rfl rfl i [] s5 _ H5 (fun _ _ => False) (hotAt I5) I5 (stat I5 n5) st5 go) fun r s6 ⟨u, hr, h6⟩ => ?_
      subst hr
      refine thnF h6 fun _ s7 ⟨x, H7, I7, r7, y7, st7, n7⟩ => ?_
      refine thnF ((pg hcb).run _ s7 _ H7 x u _ (I7.pinned (stat I7 n7) (T.obj _ _ st7)) r7 (step x H7 y7)) fun _ s8 ⟨σ8, H8, I8, hw8, q8⟩ => ?_
      refine thnF (pt.run _ s8 σ8 H8 _ I8 q8) fun b s9 ⟨H9, I9, q9⟩ => ?_
      have fin : ∀ {s' : Shared} {H' : Hp}, Inv (blkH X s3 H3 scope ce fp p) ([] ++ pinsAt fp s7.heap) σ8 H' s' → Nx H' → ∃ m, m < n ∧ ∃ i H', Inv (blkH X s3 H3 scope ce fp p) [] (wipe σ (own.map (·.2))) H' s' ∧ tn i s'.heap ∧ (∀ b ∈ fp, H' b = none) ∧ W i m H' := fun {s' H'} I' nx => by
        obtain ⟨m', hm, w'⟩ := hNx H' nx
        have pin' : ∀ b ∈ fp, ∀ o, s7.heap.get? b = some o → s'.heap.get? b = some o ∧ H' b = none := fun b hb o e =>
          let z := I'.pin (b, o) (List.mem_append_right _ (List.mem_append_right _ (mem_pinsAt hb e)))
          ⟨z.1, z.2.1⟩
        have hl : (wipe σ (own.map (·.2))).length = σ8.length := by rw [← hw8, wipe_length]
        refine ⟨m', hm, i + 1, H', (I'.unpinned (pins := [])).weak hl (fun j v e => by rw [← hw8] at e; exact (wipe_some e).1), T.keep _ _ _ st7 fun b hb o e => (pin' b hb o e).1, fun b hb => ?_, w'⟩
        obtain ⟨o, e, _⟩ := T.obj _ _ st7 b hb
        exact (pin' b hb o e).2
      cases b with
      | false =>
        simp only [Bool.false_eq_true, if_false] at q9 ⊢
        exact fin I9 q9
      | true =>
        simp only [if_true] at q9 ⊢
        refine thnF (pe.run _ s9 σ8 H9 _ I9 q9) fun z s10 ⟨yv, H10, I10, r10, acc, hD10, hz10, nx⟩ => ?_
        exact app_ok (X := blkH X s3 H3 scope ce fp p) I10 hD10 hz10 r10 fun s11 I11 => fin I11 nx
  exact codeAny_compStart_list loop (T.self X.A 0 _ _ _ st4 loop)
theorem pe_lcX {elt tg iter : Expr} {ifs : List Expr} {scope : Scope} {own : List (Str × Nat)} {pos : Pos} {wi : TI} {g : TG} {tt : L2.TT} {te : TE} (hc : HotC X) (hN : X.N.Nodup) (hi : PIX X tg iter wi) (ok : BlkOk X.N X.env.scope scope own)
    (hg : ∀ (s : Shared) (H : Hp) (C : Addr) (cl : List (Str × Addr)) (fp : List Addr) (p : Addr × Obj), HotC (blkH X s H scope (compEnvC scope cl C X.env) fp p) → PG (blkH X s H scope (compEnvC scope cl C X.env) fp p) tg g)
    (ht : ∀ (s : Shared) (H : Hp) (C : Addr) (cl : List (Str × Addr)) (fp : List Addr) (p : Addr × Obj), PTs (blkH X s H scope (compEnvC scope cl C X.env) fp p) ifs tt)
    (he : ∀ (s : Shared) (H : Hp) (C : Addr) (cl : List (Str × Addr)) (fp : List Addr) (p : Addr × Obj), PE (blkH X s H scope (compEnvC scope cl C X.env) fp p) elt te) (hs : ∀ x, foldedSetIterable iter X.env x = pure x := by intro _; rfl) :
    PE X (.ListComp elt [⟨tg, iter, ifs, 0⟩] scope pos) (tLc wi g tt te (own.map (·.2))) := by
  refine ⟨fun pins s σ H Q I h => ?_⟩
  rw [eval_ListComp]
  refine lc_coreX hc hN I hi ok hg ht he hs h fun D C s' m H' I' q hn f => ⟨m, hn, fun h'' sb => ?_⟩
  obtain ⟨f0, f1, f2, f3, f4, f5⟩ := f
  exact ⟨.ref D, H', I'.turned (t' := s'.toks) (fun b o hb e => (sb.2 b hb).trans e) f0 f1 f3 f4 f5, rfl, q⟩
end
end FD

set_option Elab.async false
set_option linter.all false
set_option maxRecDepth 100000
set_option maxHeartbeats 4000000
set_option autoImplicit false
/-! A lambda handed to a def, called there; what is known of the exception's context is kept. -/
namespace FD
open PySem PySem.Spec PyProof.Rows L2 LamX
/-- the context of the lambda's body -/
def lamN (X : Cx) (A : Around) (outer : List Env) (s : Shared) (H : Hp) (E : XK) (scope : Scope) (f c' : Addr) : Cx :=
  { lamCx X A outer s H E scope f c' with xe := fun e s' => wpAny (model X.prog X.w) (A.deeper (lamEnv X scope s.heap.objs.size f c')) (leaving (lamEnv X scope s.heap.objs.size f c') e) (fun _ s'' => L2N.CX X.prog X.w outer H s E e s'') (fun e' s'' => L2N.CX X.prog X.w outer H s E e' s'') s' }
theorem lamN_inv {X : Cx} {A : Around} {outer : List Env} {s s' : Shared} {H H' : Hp} {E : XK} {scope : Scope} {f c' : Addr} {σ : L2.St} (I : Inv (lamCx X A outer s H E scope f c') [] σ H' s') : Inv (lamN X A outer s H E scope f c') [] σ H' s' :=
  ⟨⟨I.ok.mod, I.ok.kind, I.ok.glob, I.ok.blt, I.ok.above, I.ok.inj, I.ok.has, I.ok.cab, I.ok.hd, I.ok.frames, I.ok.stk, I.ok.exf, I.ok.bs, I.ok.bsz, I.ok.noex, I.ok.exfs, I.ok.funs, I.ok.frf⟩, I.os, I.bare, I.base, I.loc, I.cell, I.free, I.freeC, I.pin, I.hok, I.len⟩
section
variable {X : Cx} {pins : List (Addr × Obj)} {σ : L2.St} {H : Hp} {s : Shared}
/-- the call, in the def that holds the lambda in its slot i -/
theorem pe_actN {CXg : CXT} {Eg : XK} {Ng : List Str} {qg : Str} {sg : Scope} {g f c' : Addr} {cdg pm ctv : Value} {params : Arguments} {body : Expr} {scope : Scope} {k i : Nat} {a : Str} {pn : List (Addr × Obj)} {xe : Value → Shared → Prop} {W : WX} {E : XK} {tb : TE} {p1 p2 : Pos}
    (I : Inv X pins σ H s) (L : LamS X.env.scope scope) (hf : s.heap.get? f = some (PySem.W.kla_obj "<lambda>" (X.env.qual ++ "<lambda>") params body scope (cloFrom X.env.cells scope.names []) pm c' ctv)) (hfn : H f = none) (hfr : f ∉ frs X.stack)
    (hbind : bindArgs (PySem.W.kla_fn "<lambda>" (X.env.qual ++ "<lambda>") params body scope (cloFrom X.env.cells scope.names []) pm (.ref c') ctv) ⟨[], []⟩ = pure [])
    (tk : L2N.Takes ((cxOf CXg X.prog X.w X.K X.mg X.base Ng qg sg g cdg X.A X.stack s H Eg).tr pn xe) W) (hW : ∀ cls d σ' H', E cls d H' → W cls d σ' H') (hr : Room (k + 1) (X.A.deeper (envOfC qg sg s.heap.objs.size g cdg)))
    (hbody : ∀ (A : Around) (outer : List Env) (s : Shared) (H : Hp), Room k (A.deeper (lamEnv X scope s.heap.objs.size f c')) → PE (lamN X A outer s H E scope f c') body tb)
    (hN : Ng[i]? = some a) (hv : Vis sg a) (hd : (a == ("__debug__" : Str)) = false := by decide) (hcd : (a == ("__classdict__" : Str)) = false := by decide) :
    PE ((cxOf CXg X.prog X.w X.K X.mg X.base Ng qg sg g cdg X.A X.stack s H Eg).tr pn xe) (.Call (.Name a p1) [] [] p2)
      (fun σZ HZ Q => σZ[i]? = some (some (.ref f)) ∧ HZ c' = some (CodeO c' (X.env.qual ++ "<lambda>")) ∧ tb σ HZ Q) := by
  refine ⟨fun pinsZ sZ σZ HZ Q IZ ⟨hs, hc, ht⟩ => ?_⟩
  refine wpAny_Call_Name_kw (thn ((pe_var (pos := p1) (i := i) hN hv hd hcd).run pinsZ sZ σZ HZ (fun v H1 => v = .ref f ∧ H1 = HZ) IZ ⟨.ref f, hs, rfl, rfl⟩) fun u s1 ⟨v, H1, I1, r1, ev, eH⟩ => ?_)
  subst ev eH
  obtain rfl : u = Value.ref f := r1
  have of1 := I1.base.keep f _ hf hfn hfr (fun z => nomatch (show f ∈ ([] : List Addr) from z))
  refine PySem.W.callWith_F0 ⟨_, _, _, _, of1⟩ ?_
  obtain ⟨⟨oc, vs, t, hoc, hdc, hvc⟩, _, _⟩ := I1.hok c' _ hc
  have rc : codeAny (model X.prog X.w) (X.A.deeper (envOfC qg sg s.heap.objs.size g cdg)) (.call (.ref f) ⟨[], []⟩) (CR (L2N.CX X.prog X.w) (envOfC qg sg s.heap.objs.size g cdg :: X.stack) X.prog X.w H1 s1 Q E) s1 := by
    refine PySem.W.kla_callFunE hr.depth of1 rfl L.co L.gen rfl ⟨c', oc, vs, t, rfl, hoc, hdc, hvc⟩ ?_
    rw [hbind]
    refine wpAny_pure (wpAny_newFunctionEnv (fun y hy => (L.own y hy).2) (fun y hy => absurd hy (by simp)) (fun h₁ hns hsb => ⟨I1.nolimit.fresh _ hsb, ?_⟩) L.kind)
    have J := lamN_inv (lam_start2 (E := E) (f := f) (c' := c') (tk := s1.toks + ([] : List (Str × Value)).length) I L I1.env0 hr.hd (show Un (frs X.stack) [] H H1 s.heap s1.heap from I1.base) hns fun b o e => hsb.extBut b o (Nat.ne_of_lt (Heap.lt_size e)) (Heap.get?_push_of_some _ e))
    refine PySem.W.kla_codeExpr (wpAny_mono ((hbody _ _ s1 H1 (hr.deeper _)).run [] _ _ H1 Q J ht) (fun v s' ⟨w', H', J', rv, q⟩ => ⟨w', H', J'.os, J'.bare, J'.base, J'.hok, rv, q⟩) fun e s' hq => hq)
  refine wpAny_call (codeAny_mono rc fun r s' hq => ?_)
  cases r with
  | error e => exact L2N.passes_call tk hW pinsZ σZ H1 s1 e s' I1 hq
  | ok fl =>
    cases fl with
    | ret u => exact I1.after hq
    | next => exact False.elim hq
    | brk => exact False.elim hq
    | cont => exact False.elim hq
end
/-- the def that calls what it got as its only argument; TT: what it makes of the lambda's reading -/
def GivesN (X : Cx) (Ng : List Str) (x : Str) (sg : Scope) (g : Addr) (cdg : Value) (bg : List Stmt) (a : Str) (q : Str) (k : Nat) (TT : (XK → Hp → VK → Prop) → Hp → VK → Prop) : Prop :=
  ∀ (f c' : Addr) (s : Shared) (H : Hp) (Q : VK) (tl : XK → Hp → VK → Prop), Room (k + 1) (X.A.deeper (envOfC x sg s.heap.objs.size g cdg)) →
    (∀ (W : WX) (pn : List (Addr × Obj)) (xe : Value → Shared → Prop) (E : XK) (p1 p2 : Pos), L2N.Takes ((cxOf C8.CX0 X.prog X.w X.K X.mg X.base Ng x sg g cdg X.A X.stack s H C8.E0).tr pn xe) W → (∀ cls d σ' H', E cls d H' → W cls d σ' H') →
      PE ((cxOf C8.CX0 X.prog X.w X.K X.mg X.base Ng x sg g cdg X.A X.stack s H C8.E0).tr pn xe) (.Call (.Name a p1) [] [] p2) (fun σZ HZ Q => σZ[0]? = some (some (.ref f)) ∧ HZ c' = some (CodeO c' q) ∧ tl E HZ Q)) →
    H c' = some (CodeO c' q) → TT tl H Q →
    ∃ t, PSs (cxOf C8.CX0 X.prog X.w X.K X.mg X.base Ng x sg g cdg X.A X.stack s H C8.E0).nox bg t ∧ t { nx := fun _ H' => Q .non H', rt := Q } (L2.start Ng [.ref f]) H
/-- x(lambda: body) -/
theorem pe_lamN {X : Cx} {T : List (Addr × Str)} {TT : (XK → Hp → VK → Prop) → Hp → VK → Prop} {x a : Str} {g c P : Addr} {k : Nat} {pg : Arguments} {bg : List Stmt} {sg : Scope} {dV kV doc pm cdv ct oc : Value} {an od : Option Addr} {osl : Array (Option Value)} {Ng : List Str}
    {params : Arguments} {body : Expr} {scope : Scope} {t : XK → TE} {p lpos pos : Pos} (hg : Gl X x) (hm : X.mg x = some (.ref g)) (hk : PySem.W.keepIn X.K (.ref g) = true)
    (lk : X.K.lookup g = some ⟨oc, od, .func (PySem.W.fnOf x x pg bg sg dV kV doc pm an cdv ct), osl⟩) (hcg : PySem.W.codeIn X.K cdv x = true) (hb : L2.Binds X.K (PySem.W.fnOf x x pg bg sg dV kV doc pm an cdv ct) [a] []) (Sg : FnScope Ng [a] sg) (hNg : Ng[0]? = some a) (hva : Vis sg a)
    (hG : GivesN X Ng x sg g cdv bg a (X.env.qual ++ "<lambda>") k TT)
    (TB : TabB X.base X.mg c P) (hcode : X.env.code = .ref c) (hmT : (P, X.env.qual ++ "<lambda>") ∈ T) (hu : ∀ p ∈ T, p.1 = P → p.2 = X.env.qual ++ "<lambda>") (hr : Room (k + 2) X.A) (L : LamS X.env.scope scope) (hdef : defaultsOf params X.env = ([], []))
    (hbind : ∀ (q : Str) (cl : List (Str × Addr)) (pm cv ctv : Value), bindArgs (PySem.W.kla_fn "<lambda>" q params body scope cl pm cv ctv) ⟨[], []⟩ = pure [])
    (hbody : ∀ (A : Around) (outer : List Env) (s : Shared) (H : Hp) (E : XK) (f c' : Addr), Room k (A.deeper (lamEnv X scope s.heap.objs.size f c')) → PE (lamN X A outer s H E scope f c') body (t E))
    (hdb : (x == ("__debug__" : Str)) = false := by decide) (hd : (a == ("__debug__" : Str)) = false := by decide) (hcd : (a == ("__classdict__" : Str)) = false := by decide) :
    PE X (.Call (.Name x p) [.Lambda params body scope lpos] [] pos) (tLam T TT t) := by
  refine ⟨fun pins s σ H Q I ⟨hT, h⟩ => ?_⟩
  refine wpAny_Call_Name_kw (ld_glob I hg hm ?_ hdb)
  refine PySem.W.callWith_K (h₀ := X.base) I.ok.mod.kin hk ?_ (by rfl) (by rfl)
  show wpAny _ _ (spliced ((false, eval (.Lambda params body scope lpos) X.env) :: backTo pos (starEach [] X.env))) _ _ s
  refine Calls.spliced_cons (lam_make2 I TB hcode hmT hu hT hdef (L.has I.ok) fun f c' pm' ctv H1 s' I1 eN T1 hf hfn hfr hco => ?_)
  refine Calls.spliced_nil ⟨I1.kIn, ?_⟩
  have rc : codeAny (model X.prog X.w) X.A (.call (.ref g) ⟨[.ref f], []⟩) (CR C8.CX0 X.stack X.prog X.w H1 s' Q C8.E0) s' := by
    refine run_ofS (N := Ng) (ps := [a]) (us := [.ref f]) (vs := [.ref f]) lk hcg Sg hr I1.env0 (hb s' [.ref f] I1.kIn rfl) (.cons rfl .nil) rfl fun hr' => ?_
    obtain ⟨t', ht', hq'⟩ := hG f c' s' H1 Q (fun E H' Q' => t E σ H' Q') hr' (fun W pn xe E p1 p2 tk hW => pe_actN (i := 0) I1 L hf hfn hfr (hbind _ _ _ _ _) tk hW hr' (fun A outer s H hr2 => hbody A outer s H E f c' hr2) hNg hva hd hcd) hco (h H1 eN T1)
    exact ⟨t', ht'.nox, hq'⟩
  refine wpAny_call (codeAny_mono rc fun r s2 hq => ?_)
  cases r with
  | error e => exact (show False from hq).elim
  | ok fl =>
    cases fl with
    | ret u => exact I1.after hq
    | next => exact False.elim hq
    | brk => exact False.elim hq
    | cont => exact False.elim hq
end FD

set_option Elab.async false
set_option linter.all false
set_option maxRecDepth 100000
set_option maxHeartbeats 4000000
set_option autoImplicit false
/-! A def that is handed the handled exception, in the suite of its except clause; isinstance of it. -/
namespace FD
open PySem PySem.Spec PyProof.Rows L2 HotX L2H
/-- a def with one parameter, called with the handled exception, of class D: it ends with what sp says -/
def FnE (P : Program) (w : World) (K : PySem.W.Frag) (mg : Str → Option Value) (base : Heap) (k : Nat) (f : Addr) (fd : FuncData) (ps : List Str) (D : Addr) (sp : Hp → VK → Prop) : Prop :=
  ∀ (A : Around) (outer : List Env) (s : Shared) (H : Hp) (args : Args) (Q : VK) (p : Addr × Obj), RoomH k A → Hot1 A p → PinOk outer H s p → Zc (.ref D) none p.2 → Env0 P w K mg base A outer s H → BindsTo s fd args (ps.zip [.ref p.1]) → sp H Q →
    codeAny (model P w) A (.call (.ref f) args) (CR (L2N.CX P w) outer P w H s Q (fun _ _ _ => False)) s
abbrev cxE (P : Program) (w : World) (K : PySem.W.Frag) (mg : Str → Option Value) (base : Heap) (N : List Str) (qual : Str) (scope : Scope) (f : Addr) (cd : Value) (A : Around) (outer : List Env) (s : Shared) (H : Hp) (p : Addr × Obj) : Cx := cxH (L2N.CX P w) P w K mg base N qual scope f cd A outer s H (fun _ _ _ => False) p
section
variable {P : Program} {w : World} {K : PySem.W.Frag} {mg : Str → Option Value} {base : Heap}
theorem fnE_of {k : Nat} {f D : Addr} {name qual a : Str} {params : Arguments} {body : List Stmt} {scope : Scope} {dV kV doc pm cdv ct oc : Value} {an od : Option Addr} {osl : Array (Option Value)} {N : List Str} {sp : Hp → VK → Prop}
    (lk : K.lookup f = some ⟨oc, od, .func (PySem.W.fnOf name qual params body scope dV kV doc pm an cdv ct), osl⟩) (hcd : PySem.W.codeIn K cdv qual = true) (S : FnScope N [a] scope)
    (hbody : ∀ (A : Around) (outer : List Env) (s : Shared) (H : Hp) (Q : VK) (p : Addr × Obj), Hot1 A p → Zc (.ref D) none p.2 → RoomH k (A.deeper (envOfC qual scope s.heap.objs.size f cdv)) → sp H Q →
      ∃ t, PSs (cxE P w K mg base N qual scope f cdv A outer s H p) body t ∧ t { nx := fun _ H' => Q .non H', rt := Q } (L2.start N [.ref p.1]) H) :
    FnE P w K mg base (k + 1) f (PySem.W.fnOf name qual params body scope dV kV doc pm an cdv ct) [a] D sp := by
  intro A outer s H args Q p hr hot hpin hz e0 hb hsp
  have kept : K.In s.heap := e0.mod.kin.keeps fun b o e => (e0.bs b o e).1
  have hkind : ∀ y ∈ [a].zip [Value.ref p.1], scope.names.lookup y.1 = some .local ∨ (scope.names.lookup y.1 = some .cell ∧ ((cellsFrom (s.heap.objs.size + 1) scope.names []).lookup y.1).isSome = true) := fun y hy => by
    have e : y = (a, Value.ref p.1) := by simpa using hy
    rw [e]
    exact (S.par a List.mem_cons_self).elim .inl fun q => .inr ⟨q, PySem.W.cellsFrom_some _ _ _ (.inl q)⟩
  refine codeAny_call_function hr.depth (kept _ _ lk) rfl S.co S.gen rfl (PySem.W.codeRec_of kept hcd) (hb _ _ _ _ ?_)
  refine wpAny_newFunctionEnv_cells S.kind hkind fun env he s1 x => ?_
  subst he
  refine ⟨(e0.mod.nolimit.keeps fun b o e => (e0.bs b o e).1).keeps x.toInCall.keep, codeAny_func ?_⟩
  obtain ⟨t, ht, hq⟩ := hbody A outer s H Q p hot hz (hr.deeper _) hsp
  have I : Inv (cxE P w K mg base N qual scope f cdv A outer s H p) [] (L2.start N [.ref p.1]) H s1 := inv_startH S hpin e0 rfl (.cons rfl .nil) x
  refine wpAny_mono (ht.run [] s1 _ H _ I hq) (fun fl s' hs => ?_) fun e s' hs => hs
  cases fl with
  | ret u =>
    obtain ⟨v, σ', H', J, rv, q⟩ := hs
    exact ⟨v, H', J.os, J.bare, J.base, J.hok, rv, q⟩
  | next =>
    obtain ⟨σ', H', J, q⟩ := hs
    exact ⟨.non, H', J.os, J.bare, J.base, J.hok, rfl, q⟩
  | brk =>
    obtain ⟨_, _, _, q⟩ := hs
    exact False.elim q
  | cont =>
    obtain ⟨_, _, _, q⟩ := hs
    exact False.elim q
end
/-- the call in the suite -/
theorem pe_callE {X : Cx} {k i : Nat} {f D a : Addr} {fd : FuncData} {ps : List Str} {sp : Hp → VK → Prop} {x e : Str} {q p pos : Pos} {oe : Obj} {pn : List (Addr × Obj)} (F : FnE X.prog X.w X.K X.mg X.base k f fd ps D sp) (hps : ps.length = 1) (hr : RoomH k X.A) (hz : L2N.Zn (.ref D) none oe) (hf : ∃ vs, oe.data = .fields vs)
    (hg : Gl X x) (hm : X.mg x = some (.ref f)) (hk : PySem.W.keepIn X.K (.ref f) = true) (hb : Binds X.K fd ps []) (hN : X.N[i]? = some e) (hv : Vis X.env.scope e) (hd : (e == ("__debug__" : Str)) = false := by decide) (hcd : (e == ("__classdict__" : Str)) = false := by decide) (hdb : (x == ("__debug__" : Str)) = false := by decide) :
    PE (X.suite a ((a, oe) :: pn)) (.Call (.Name x q) [.Name e p] [] pos) (fun σ H Q => σ[i]? = some (some (.ref a)) ∧ sp H Q) := by
  refine ⟨fun pins s σ H Q I ⟨h1, h2⟩ => ?_⟩
  have ha : PA (X.suite a ((a, oe) :: pn)) [.Name e p] (tCons (tVar i) tNil) := pa_cons (pe_var hN hv hd hcd) pa_nil
  refine wpAny_Call_Name_kw (ld_glob (X := X.suite a ((a, oe) :: pn)) I hg hm ?_ hdb)
  refine PySem.W.callWith_K (h₀ := X.base) I.ok.mod.kin hk (thn (ha.run pos pins s σ H (fun vs H1 => vs = [.ref a] ∧ H1 = H) I ⟨_, h1, rfl, rfl⟩) fun us s1 ⟨vs, H1, I1, r, ev, eH⟩ => ⟨I1.kIn, ?_⟩) (by rfl) (by rfl)
  subst ev eH
  obtain ⟨u, rfl, ru⟩ : ∃ u, us = [u] ∧ u = Value.ref a := by
    cases r with
    | cons r1 r2 => cases r2; exact ⟨_, rfl, r1⟩
  subst ru
  have P1 := I1.pin (a, oe) (List.mem_append_left _ List.mem_cons_self)
  have hpin : PinOk X.stack H1 s1 (a, oe) := ⟨P1.1, P1.2.1, fun hm => (List.mem_cons.mp (I1.stkSub a hm)).elim P1.2.2.1 P1.2.2.2.1, P1.2.2.2.2⟩
  obtain ⟨vs, hvs⟩ := hf
  have b := hb s1 [.ref a] I1.kIn (by rw [List.append_nil, hps]; rfl)
  rw [List.append_nil] at b
  refine wpAny_call (codeAny_mono (F (X.A.mark (some (.ref a))) X.stack s1 H1 ⟨[.ref a], []⟩ Q (a, oe) ⟨hr.dp, hr.un⟩ ⟨rfl, vs, hvs, hz.2.2 vs hvs⟩ hpin hz.zc I1.env0 b h2) fun r s' hq => ?_)
  cases r with
  | error e =>
    obtain ⟨_, _, _, _, _, _, _, _, _, _, _, _, z⟩ := hq
    exact z.elim
  | ok fl =>
    cases fl with
    | ret u => exact I1.after hq
    | next => exact False.elim hq
    | brk => exact False.elim hq
    | cont => exact False.elim hq
/-- isinstance(e, c), e the handled exception -/
theorem call_isH {X : Cx} {D : Addr} {p : Addr × Obj} (C : ExcC X.K D) (hp : p ∈ X.pn) (hz : Zc (.ref D) none p.2) (hf : ∃ vs, p.2.data = .fields vs) : CallR X (.builtin "isinstance") (rIsE X.K D p.1) := by
  intro pins s σ H xs us Q I r ⟨c, cv, b, ex, hcv, e, q⟩
  subst ex
  cases r with
  | cons rx rr =>
    cases rr with
    | cons rt rr =>
      cases rr
      cases rx
      have ec := hcv _ rt
      subst ec
      have J : PySem.W.InstAt s.heap p.1 p.2 D none := by
        obtain ⟨a, oc, od, oda, osl⟩ := p
        obtain ⟨h1, h2⟩ := hz
        obtain ⟨vs, hv⟩ := hf
        dsimp only at h1 h2 hv
        subst h1 h2 hv
        exact ⟨(I.pin _ (List.mem_append_left _ hp)).1, rfl, rfl, trivial⟩
      exact PySem.W.kia_one (PySem.W.handS_kitx_exc C.hg C.hk C.hs C.hd C.ha C.hn C.ht C.hm) I.kIn J e (fun z => nomatch z) fun tk => ⟨.bl b, H, I.kept (t' := tk) fun _ _ z => z, rfl, q⟩
end FD

set_option Elab.async false
set_option linter.all false
set_option maxRecDepth 100000
set_option maxHeartbeats 4000000
set_option autoImplicit false
/-! The D layer while an exception is handled. -/
namespace FD
open PySem PySem.Spec PyProof.Rows L2 HotX L2H
section
variable {C : Dx} {pos : Pos} {a b c e : Expr} {fa fb fc fe : DE} {es : List Expr} {fs fi : DA}
/-- a list made by + that will change -/
def gAddM : G2
  | .lst xs, .lst ys, G, Q => xs.length + ys.length ≤ sizeLine ∧ ∀ p, G p = none → Q (.obj (.ref p)) (put G p (.lst (xs ++ ys)))
  | _, _, _, _ => False
theorem bd_addM : BinD C .Add gAddM := ⟨_, op_cat, fun M G H x y dx dy Q P sr rx ry h k => by
  cases rx with
  | lst hx rx =>
    cases ry with
    | lst hy ry => exact ⟨_, _, _, _, rfl, rfl, (hide_sub hx).1, (hide_sub hy).1, by rw [rx.length, ry.length]; exact h.1, fun p n => madeM sr k (rx.append ry) n h.2⟩
    | _ => exact False.elim h
  | _ => exact False.elim h⟩
/-- x.split(y) -/
def gSplit : G2
  | .str x, .str y, G, Q => ((y.length == 0) = false ∧ x.length + 2 ≤ sizeLine) ∧ Q (.lst ((Txt.split x y).map D.str)) G
  | _, _, _, _ => False
theorem pd_split {o : Expr} {fo : DE} {apos cpos : Pos} (ho : PDE C o fo) (he : PDE C e fe) (hs : starEach [e] C.X.env = [(false, eval e C.X.env)] := by rfl) (hbase : attributeBase o "split" C.X.env (eval o C.X.env) = eval o C.X.env := by rfl) (hline : (apos.endLine == cpos.line) = true := by rfl) :
    PDE C (.Call (.Attribute o "split" apos) [e] [] cpos) (dM1 gSplit fo fe) := by
  refine peI (pe_split ho he hs hbase hline) (tE_M1 ?_)
  intro M G H x y dx dy Q P sr rx ry h k
  cases rx with
  | str a =>
    cases ry with
    | str b => exact ⟨_, _, rfl, rfl, h.1.1, h.1.2, fun p n => madeL sr k repStrsMk n h.2⟩
    | _ => exact False.elim h
  | _ => exact False.elim h
/-- isinstance of the handled exception at ea: isB tells of each class -/
def gIs (isB : V → Option Bool) (ea : Addr) : GN
  | [.obj v, .obj c], G, Q => v = .ref ea ∧ ∃ b, isB c = some b ∧ Q (.bl b) G
  | _, _, _ => False
/-- what isB tells is so -/
def IsOk (K : PySem.W.Frag) (D : Addr) (isB : V → Option Bool) : Prop := ∀ c b, isB c = some b → ∃ cv : Value, (∀ u, RelV c u → u = cv) ∧ PySem.W.kitOne K (.ref D) cv = some b
theorem bt_isE {D : Addr} {p : Addr × Obj} {isB : V → Option Bool} (X : ExcC C.X.K D) (hp : p ∈ C.X.pn) (hz : Zc (.ref D) none p.2) (hf : ∃ vs, p.2.data = .fields vs) (hi : IsOk C.X.K D isB) : BltD C (.builtin "isinstance") (gIs isB p.1) :=
  ⟨_, call_isH X hp hz hf, fun M G H xs ds Q P sr r h k => by
    match ds, h with
    | [.obj v, .obj c], h =>
      obtain ⟨w, w2, rfl, r1, r2⟩ := rep2 r
      cases r1; cases r2
      obtain ⟨rfl, b, hb, q⟩ := h
      obtain ⟨cv, h1, h2⟩ := hi _ _ hb
      exact ⟨_, cv, b, rfl, h1, h2, here sr k (.bl _) q⟩⟩
/-- pairs of two lists of one length -/
def dItZh (fs : DA) : DA := fun ρ G Q E => fs ρ G (fun ds G1 => match ds with
  | [.lst xs, .lst ys] => xs.length = ys.length ∧ Q (zips xs ys) G1
  | _ => False) E
theorem walks_Zh {k : Kx} {Hv : Hp} {p q : Addr} {vs ws : List V} {xs ys : List D} (h : Hv p = some (.lst vs)) (r : RepAll k.K Hv vs xs) (h' : Hv q = some (.lst ws)) (r' : RepAll k.K Hv ws ys) (hl : xs.length = ys.length) : Walks k Hv (Izh k.K p q) (zips xs ys) := by
  have W := walks_Z h r h' r'
  refine ⟨W.go, fun M G H s x => ?_, W.yld⟩
  obtain ⟨as, bs, h1, h2, _⟩ := W.stop M G H s x
  have e1 : (hide_sub (x _ _ h (fun ps z => by cases z))).1 = (hide_sub (x _ _ h (fun ps z => by cases z))).1 := rfl
  refine ⟨vs, ws, SqL.of (hide_sub (x _ _ h (fun ps z => by cases z))).1, SqL.of (hide_sub (x _ _ h' (fun ps z => by cases z))).1, ?_, ?_⟩
  · rw [zips_len, r.length]; omega
  · rw [zips_len, r'.length]; omega
abbrev PDIX (C : Dx) (tg iter : Expr) (f : DA) : Prop := PIX C.X tg iter (tI C.k f)
theorem pdi_zipH {elts : List Expr} {kk : Nat} {tpos p : Pos} (hm : C.X.mg "zip" = none) (ha : PDA C [a, b] fs) (hg : Gl C.X "zip" := by rfl)
    (hs : starEach [a, b] C.X.env = (false, eval a C.X.env) :: starEach [b] C.X.env := by rfl) (hpl : (backTo pos (starEach [b] C.X.env)).any (·.1) = false := by rfl) : PDIX C (.Tuple elts kk tpos) (.Call (.Name "zip" p) [a, b] [] pos) (dItZh fs) := by
  refine ⟨fun x1 pins s σ H R I h => (pi_zipX hg hm ha hs hpl).run x1 pins s σ H R I ?_⟩
  obtain ⟨M, ρ, G, Q, E, er, sr, ew, h, k⟩ := h
  refine ⟨M, ρ, G, _, E, er, sr, ew, h, fun vs H1 ds G1 g1 r1 q1 => ?_⟩
  match ds, q1 with
  | [.lst xs, .lst ys], q1 =>
    obtain ⟨v, w, rfl, r2, r3⟩ := rep2 r1
    cases r2 with
    | lst hx ra =>
      cases r3 with
      | lst hy rb => exact ⟨_, _, _, _, rfl, SqL.of (hide_sub hx).1, SqL.of (hide_sub hy).1, k _ _ _ _ g1 (walks_Zh hx ra hy rb q1.1) q1.2⟩
/-- the block's context -/
abbrev Dx.blkH (C : Dx) (s : Shared) (H : Hp) (scope : Scope) (cenv : Env) (fp : List Addr) (p : Addr × Obj) : Dx where
  X := FD.blkH C.X s H scope cenv fp p
  T := C.T
  W := fun _ _ _ => False
  hu := C.hu
  tk := takes0N
  po := PassesOwn.never
theorem pdl_compH {q : DT} {fe : DE} {elt iter : Expr} {ifs : List Expr} {scope : Scope} {x y : Str} {j1 j2 kk : Nat} {p1 p2 tp : Pos} (hc : HotC C.X) (hN : C.X.N.Nodup) (hi : PDIX C (.Tuple [.Name x p1, .Name y p2] kk tp) iter fi) (ok : BlkOk C.X.N C.X.env.scope scope [(x, j1), (y, j2)])
    (hg : ∀ (s : Shared) (H : Hp) (Ca : Addr) (cl : List (Str × Addr)) (fp : List Addr) (p : Addr × Obj), PGs (FD.blkH C.X s H scope (compEnvC scope cl Ca C.X.env) fp p) [.Name x p1, .Name y p2] (gCons (gName j1) (gCons (gName j2) gNil)))
    (ht : ∀ (s : Shared) (H : Hp) (Ca : Addr) (cl : List (Str × Addr)) (fp : List Addr) (p : Addr × Obj), PTs (C.blkH s H scope (compEnvC scope cl Ca C.X.env) fp p).X ifs (tT (C.blkH s H scope (compEnvC scope cl Ca C.X.env) fp p).k q))
    (he : ∀ (s : Shared) (H : Hp) (Ca : Addr) (cl : List (Str × Addr)) (fp : List Addr) (p : Addr × Obj), PDE (C.blkH s H scope (compEnvC scope cl Ca C.X.env) fp p) elt fe) (hj : j1 ≠ j2 := by decide) (hs : ∀ x, foldedSetIterable iter C.X.env x = pure x := by intro _; rfl) :
    PDL C (.ListComp elt [⟨.Tuple [.Name x p1, .Name y p2] kk tp, iter, ifs, 0⟩] scope pos) (dComp fi (bT j1 j2) [j1, j2] q fe) :=
  peI (pe_lcX (own := [(x, j1), (y, j2)]) (tt := tT C.k.blk q) (te := tE C.k.blk fe) hc hN hi ok (fun s H Ca cl fp p hcb => pg_tupH hcb (hg s H Ca cl fp p)) ht he hs) (tLc_of (bndT _ j1 j2 hj))
end
section
variable {P : Program} {w : World} {K : PySem.W.Frag} {mg : Str → Option Value} {base : Heap}
/-- the context of a def's body that is called with the handled exception -/
abbrev dxE (T : Tb) {N : List Str} {qual : Str} {st : Stmt} {f : Addr} {cdv : Value} {A : Around} {outer : List Env} {s : Shared} {H : Hp} {p : Addr × Obj} {k : Nat} (hr : RoomH k (A.deeper (envOfC qual (defScope st) s.heap.objs.size f cdv))) : Dx where
  X := cxE P w K mg base N qual (defScope st) f cdv A outer s H p
  T := T
  W := fun _ _ _ => False
  hu := by have := hr.un; show (A.deeper (envOfC qual (defScope st) s.heap.objs.size f cdv)).units + 64 < cLine; omega
  tk := takes0N
  po := passes_of rfl
end
end FD

set_option autoImplicit false
/-! Plain mathematics of the folded strip. -/
namespace FD
/-- the crease at p; gs: the folds, the last ahead -/
def crR : List Bool → Nat → Bool
  | [], _ => false
  | f :: gs, p => if p % 2 = 1 then f == decide (p % 4 = 1) else crR gs (p / 2)
/-- how many valleys up to p -/
def vlR : List Bool → Nat → Nat
  | [], _ => 0
  | f :: gs, p => (if f then (p + 3) / 4 else (p + 1) / 4) + vlR gs (p / 2)
theorem vlR_zero : ∀ gs, vlR gs 0 = 0
  | [] => rfl
  | f :: gs => by unfold vlR; rw [Nat.zero_div, vlR_zero gs]; cases f <;> rfl
theorem vlR_succ : ∀ (gs : List Bool) (p : Nat), vlR gs (p + 1) = vlR gs p + (if crR gs (p + 1) then 1 else 0)
  | [], _ => rfl
  | f :: gs, p => by
    unfold vlR crR
    by_cases h : (p + 1) % 2 = 1
    · rw [if_pos h]
      have e : (p + 1) / 2 = p / 2 := by omega
      rw [e]
      cases f
      · by_cases q : (p + 1) % 4 = 1
        · simp [q]; omega
        · simp [q]; omega
      · by_cases q : (p + 1) % 4 = 1
        · simp [q]; omega
        · simp [q]; omega
    · rw [if_neg h]
      have e : (p + 1) / 2 = p / 2 + 1 := by omega
      rw [e, vlR_succ gs (p / 2)]
      cases f
      · simp; omega
      · simp; omega
/-- turned round -/
theorem crR_mirror : ∀ (k : Nat) (gs : List Bool) (p : Nat), k ≤ gs.length → 0 < p → p < 2 ^ (k + 1) → p ≠ 2 ^ k → crR gs (2 ^ (k + 1) - p) = !crR gs p
  | 0, gs, p, _, h1, h2, h3 => by simp at h2 h3; omega
  | k + 1, [], p, h0, _, _, _ => by simp at h0
  | k + 1, f :: gs, p, h0, h1, h2, h3 => by
    have e4 : 2 ^ (k + 1 + 1) = 4 * 2 ^ k := by rw [Nat.pow_succ, Nat.pow_succ]; omega
    have e2 : 2 ^ (k + 1) = 2 * 2 ^ k := by rw [Nat.pow_succ]; omega
    unfold crR
    by_cases h : p % 2 = 1
    · rw [if_pos h, if_pos (by omega)]
      by_cases q : p % 4 = 1
      · have : ¬ (2 ^ (k + 1 + 1) - p) % 4 = 1 := by omega
        simp only [q, this, decide_true, decide_false]
        cases f <;> rfl
      · have : (2 ^ (k + 1 + 1) - p) % 4 = 1 := by omega
        simp only [q, this, decide_true, decide_false]
        cases f <;> rfl
    · rw [if_neg h, if_neg (by omega)]
      have e : (2 ^ (k + 1 + 1) - p) / 2 = 2 ^ (k + 1) - p / 2 := by omega
      rw [e]
      exact crR_mirror k gs (p / 2) (by simpa using h0) (by omega) (by omega) (by omega)
theorem crR_app : ∀ (gs : List Bool) (f : Bool) (p : Nat), 0 < p → p < 2 ^ gs.length → crR (gs ++ [f]) p = crR gs p
  | [], f, p, h1, h2 => by simp at h2; omega
  | g :: gs, f, p, h1, h2 => by
    rw [List.length_cons, Nat.pow_succ] at h2
    rw [List.cons_append]
    unfold crR
    by_cases h : p % 2 = 1
    · rw [if_pos h, if_pos h]
    · rw [if_neg h, if_neg h]
      exact crR_app gs f (p / 2) (by omega) (by omega)
theorem crR_mid : ∀ (gs : List Bool) (f : Bool), crR (gs ++ [f]) (2 ^ gs.length) = f
  | [], f => by cases f <;> rfl
  | g :: gs, f => by
    rw [List.cons_append, List.length_cons, Nat.pow_succ]
    unfold crR
    rw [if_neg (by omega), Nat.mul_div_cancel _ (by omega)]
    exact crR_mid gs f
/-- the crease by halves, as the law does: fs: the folds, the first ahead -/
def crL : List Bool → Nat → Bool → Option Bool
  | [], _, _ => none
  | f :: fs, p, t =>
    if p = 2 ^ fs.length then some (f != t)
    else if 2 ^ fs.length < p then crL fs (2 * 2 ^ fs.length - p) (!t)
    else crL fs p t
theorem crL_eq : ∀ (fs : List Bool) (p : Nat) (t : Bool), 0 < p → p < 2 ^ fs.length → crL fs p t = some (crR fs.reverse p != t)
  | [], p, t, h1, h2 => by simp at h2; omega
  | f :: fs, p, t, h1, h2 => by
    rw [List.length_cons, Nat.pow_succ] at h2
    unfold crL
    rw [List.reverse_cons]
    by_cases h : p = 2 ^ fs.length
    · rw [if_pos h]
      have := crR_mid fs.reverse f
      rw [List.length_reverse] at this
      rw [h, this]
    · rw [if_neg h]
      by_cases q : 2 ^ fs.length < p
      · rw [if_pos q, crL_eq fs _ _ (by omega) (by omega)]
        have e : crR (fs.reverse ++ [f]) (2 * 2 ^ fs.length - p) = crR fs.reverse (2 * 2 ^ fs.length - p) := crR_app _ _ _ (by omega) (by rw [List.length_reverse]; omega)
        have m := crR_mirror fs.length (fs.reverse ++ [f]) p (by simp) h1 (by rw [Nat.pow_succ]; omega) h
        rw [Nat.pow_succ, Nat.mul_comm] at m
        rw [← e, m]
        cases crR (fs.reverse ++ [f]) p <;> cases t <;> rfl
      · rw [if_neg q, crL_eq fs _ _ h1 (by omega), crR_app _ _ _ h1 (by rw [List.length_reverse]; omega)]
/-- the strip, laid half by half; gs: the last fold ahead -/
def stripR : List Bool → List Bool → List Bool
  | [], acc => acc
  | g :: gs, acc => stripR gs (acc ++ g :: acc.reverse.map not)
def allC (gs : List Bool) : List Bool := (List.range (2 ^ gs.length - 1)).map fun i => crR gs (i + 1)
theorem allC_len (gs : List Bool) : (allC gs).length = 2 ^ gs.length - 1 := by unfold allC; rw [List.length_map, List.length_range]
theorem allC_get {gs : List Bool} {i : Nat} (h : i < 2 ^ gs.length - 1) : (allC gs)[i]? = some (crR gs (i + 1)) := by
  unfold allC
  rw [List.getElem?_map, List.getElem?_range h]; rfl
theorem allC_snoc (gs : List Bool) (f : Bool) : allC (gs ++ [f]) = allC gs ++ f :: (allC gs).reverse.map not := by
  have hp : 0 < 2 ^ gs.length := Nat.pow_pos (by omega)
  have e2 : 2 ^ (gs.length + 1) = 2 * 2 ^ gs.length := by rw [Nat.pow_succ]; omega
  apply List.ext_getElem?
  intro i
  by_cases h : i < 2 ^ (gs.length + 1) - 1
  · rw [allC_get (by simpa using h)]
    by_cases h1 : i < 2 ^ gs.length - 1
    · rw [List.getElem?_append_left (by rw [allC_len]; exact h1), allC_get h1, crR_app _ _ _ (by omega) (by omega)]
    · rw [List.getElem?_append_right (by rw [allC_len]; omega), allC_len]
      by_cases h2 : i = 2 ^ gs.length - 1
      · subst h2
        have e : 2 ^ gs.length - 1 + 1 = 2 ^ gs.length := by omega
        rw [e, crR_mid, Nat.sub_self]; rfl
      · obtain ⟨j, hj⟩ : ∃ j, i - (2 ^ gs.length - 1) = j + 1 := ⟨i - (2 ^ gs.length - 1) - 1, by omega⟩
        rw [hj, List.getElem?_cons_succ, List.getElem?_map, List.getElem?_reverse (by rw [allC_len]; omega), allC_len, allC_get (by omega)]
        have m := crR_mirror gs.length (gs ++ [f]) (i + 1) (by simp) (by omega) (by omega) (by omega)
        have e : 2 ^ (gs.length + 1) - (i + 1) = 2 ^ gs.length - 1 - 1 - j + 1 := by omega
        rw [e, crR_app _ _ _ (by omega) (by omega)] at m
        show some _ = some (!_)
        rw [m, Bool.not_not]
  · rw [List.getElem?_eq_none (by rw [allC_len]; simp; omega), List.getElem?_eq_none]
    simp [allC_len]; omega
theorem stripR_eq : ∀ (gs hs : List Bool), stripR gs (allC hs) = allC (hs ++ gs)
  | [], hs => by rw [List.append_nil]; rfl
  | g :: gs, hs => by
    unfold stripR
    rw [← allC_snoc, stripR_eq gs (hs ++ [g]), List.append_assoc]; rfl
theorem allC_nil : allC [] = [] := rfl
theorem strip_eq (gs : List Bool) : stripR gs [] = allC gs := by
  have := stripR_eq gs []
  rwa [allC_nil, List.nil_append] at this
/-- valleys are counted -/
theorem vlR_count : ∀ (gs : List Bool) (p : Nat), p ≤ 2 ^ gs.length - 1 → ((allC gs).take p).count true = vlR gs p
  | gs, 0, _ => by rw [vlR_zero]; simp
  | gs, p + 1, h => by
    rw [List.take_add_one, allC_get (by omega), List.count_append, vlR_count gs p (by omega), vlR_succ]
    cases crR gs (p + 1) <;> rfl
theorem count_rev_not (l : List Bool) : (l.reverse.map not).count true + l.count true = l.length := by
  induction l with
  | nil => rfl
  | cons a l ih =>
    rw [List.reverse_cons, List.map_append, List.count_append]
    cases a <;> simp at ih ⊢ <;> omega
/-- all valleys -/
theorem vlR_all (gs : List Bool) (f : Bool) : vlR (gs ++ [f]) (2 ^ (gs.length + 1) - 1) = 2 ^ gs.length - 1 + (if f then 1 else 0) := by
  have a := vlR_count (gs ++ [f]) (2 ^ (gs.length + 1) - 1) (by simp)
  rw [List.take_of_length_le (by rw [allC_len]; simp), allC_snoc] at a
  rw [List.count_append, List.count_cons] at a
  have c := count_rev_not (allC gs)
  rw [allC_len] at c
  cases f
  · have : (false == true) = false := rfl
    rw [this] at a
    simp only [if_false, Bool.false_eq_true] at a ⊢
    omega
  · have : (true == true) = true := rfl
    rw [this] at a
    simp only [if_true] at a ⊢
    omega
theorem vlR_le (gs : List Bool) : ∀ p : Nat, vlR gs p ≤ p
  | 0 => by rw [vlR_zero]; omega
  | p + 1 => by
    have := vlR_le gs p
    rw [vlR_succ]
    cases crR gs (p + 1) <;> simp <;> omega
/-- the fold at k: early, then again and again -/
def itemB (e a : List Bool) (k : Nat) : Bool := if k < e.length then e.getD k false else a.getD ((k - e.length) % a.length) false
def foldsB (e a : List Bool) (n : Nat) : List Bool := (List.range n).map (itemB e a)
theorem foldsB_len (e a : List Bool) (n : Nat) : (foldsB e a n).length = n := by unfold foldsB; rw [List.length_map, List.length_range]
/-- as the law lays them: again and again -/
def layB (e a : List Bool) : Nat → List Bool
  | 0 => e
  | k + 1 => layB e a k ++ a
theorem layB_len (e a : List Bool) : ∀ k, (layB e a k).length = e.length + k * a.length
  | 0 => by simp [layB]
  | k + 1 => by unfold layB; rw [List.length_append, layB_len e a k, Nat.succ_mul]; omega
theorem layB_get (e a : List Bool) (h : 0 < a.length) : ∀ (k i : Nat), i < (layB e a k).length → (layB e a k)[i]? = some (itemB e a i)
  | 0, i, hi => by
    unfold layB at hi ⊢
    unfold itemB
    rw [if_pos hi, List.getElem?_eq_getElem hi, List.getD_eq_getElem?_getD, List.getElem?_eq_getElem hi]; rfl
  | k + 1, i, hi => by
    by_cases q : i < (layB e a k).length
    · unfold layB
      rw [List.getElem?_append_left q]; exact layB_get e a h k i q
    · have hl := layB_len e a k
      have hl2 := layB_len e a (k + 1)
      have e3 : (k + 1) * a.length = k * a.length + a.length := Nat.succ_mul _ _
      unfold layB
      rw [List.getElem?_append_right (by omega)]
      unfold itemB
      have hle : e.length ≤ (layB e a k).length := by rw [hl]; omega
      rw [if_neg (by omega)]
      have m : (i - e.length) % a.length = i - (layB e a k).length := by
        have e4 : i - e.length = (i - (layB e a k).length) + k * a.length := by omega
        rw [e4, Nat.add_mul_mod_self_right]
        exact Nat.mod_eq_of_lt (by omega)
      have hb : i - (layB e a k).length < a.length := by omega
      rw [m, List.getD_eq_getElem?_getD, List.getElem?_eq_getElem hb]; rfl
theorem layB_take (e a : List Bool) (h : 0 < a.length) (k n : Nat) (hn : n ≤ (layB e a k).length) : (layB e a k).take n = foldsB e a n := by
  apply List.ext_getElem?
  intro i
  unfold foldsB
  by_cases hi : i < n
  · rw [List.getElem?_take_of_lt hi, layB_get e a h k i (by omega), List.getElem?_map, List.getElem?_range hi]; rfl
  · rw [List.getElem?_eq_none (by rw [List.length_take]; omega), List.getElem?_eq_none (by rw [List.length_map, List.length_range]; omega)]
end FD

set_option Elab.async false
set_option linter.all false
set_option maxRecDepth 100000
set_option maxHeartbeats 4000000
set_option autoImplicit false
/-! Texts of creases, small facts for readings. -/
namespace FD
open PySem PySem.Spec PyProof.Rows L2
def chB (b : Bool) : Nat := if b then 118 else 109
/-- creases as a text -/
def wS (l : List Bool) : Str := SX.S (l.map chB)
theorem str_v : (Str.ofString "v") = wS [true] := by decide +kernel
theorem str_m : (Str.ofString "m") = wS [false] := by decide +kernel
theorem str_e : (Str.ofString "") = wS [] := by decide +kernel
theorem wS_len (l : List Bool) : (wS l).length = l.length := by unfold wS; rw [SX.S_len, List.length_map]
theorem wS_app (a b : List Bool) : wS a ++ wS b = wS (a ++ b) := by unfold wS; rw [SX.S_cat, List.map_append]
theorem chB_inj {a b : Bool} (h : chB a = chB b) : a = b := by
  cases a <;> cases b <;> first | rfl | (simp [chB] at h)
theorem wS_inj {a b : List Bool} (h : wS a = wS b) : a = b := by
  have h2 := SX.S_inj h
  induction a generalizing b with
  | nil => cases b with
    | nil => rfl
    | cons _ _ => cases h2
  | cons x a ih => cases b with
    | nil => cases h2
    | cons y b =>
      rw [List.map_cons, List.map_cons] at h2
      have e1 := chB_inj (List.cons.inj h2).1
      have e2 := ih (b := b) (by unfold wS; rw [(List.cons.inj h2).2]) (List.cons.inj h2).2
      rw [e1, e2]
theorem joinL_nil : ∀ ys : List (List Nat), TL.joinL [] ys = ys.flatten
  | [] => rfl
  | [p] => by simp [TL.joinL]
  | p :: q :: r => by
    show p ++ ([] ++ TL.joinL [] (q :: r)) = _
    rw [List.nil_append, joinL_nil (q :: r)]; rfl
theorem join_w (l : List Bool) : Txt.join (wS []) (l.map fun b => wS [b]) = wS l := by
  have e : (l.map fun b => wS [b]) = (l.map fun b => [chB b]).map SX.S := by rw [List.map_map]; rfl
  rw [e]
  show Txt.join (SX.S []) _ = _
  rw [SX.join_S, joinL_nil]
  unfold wS
  congr 1
  induction l with
  | nil => rfl
  | cons x l ih => rw [List.map_cons, List.flatten_cons, ih (by rw [List.map_map]; rfl)]; rfl
theorem rev_w (l : List Bool) : revS (wS l) = wS l.reverse := by
  unfold revS wS SX.S
  rw [List.map_reverse]
theorem cut_w (l : List Bool) (a b : Nat) (h : a ≤ b) : cutS (wS l) (some (a : Int)) (some (b : Int)) = wS ((l.drop a).take (b - a)) := by
  unfold cutS wS SX.S
  have hl : (⟨(l.map chB).toArray⟩ : Str).length = l.length := by
    show (l.map chB).toArray.size = _
    rw [List.size_toArray, List.length_map]
  rw [hl, HT.sIx_nat, HT.sIx_nat]
  congr 2
  show ((l.map chB).drop _).take _ = _
  rw [← List.map_drop, ← List.map_take]
  congr 1
  apply List.ext_getElem?
  intro i
  by_cases ha : a ≤ l.length
  · rw [Nat.min_eq_left ha]
    by_cases hb : b ≤ l.length
    · rw [Nat.min_eq_left hb]
    · rw [Nat.min_eq_right (by omega), List.take_of_length_le (by rw [List.length_drop]; omega), List.take_of_length_le (by rw [List.length_drop]; omega)]
  · rw [List.drop_of_length_le (by omega), List.drop_of_length_le (by omega)]; simp
theorem cutN_w (l : List Bool) (b : Nat) : cutS (wS l) none (some (b : Int)) = wS (l.take b) := by
  have := cut_w l 0 b (by omega)
  unfold cutS at this ⊢
  rw [List.drop_zero, Nat.sub_zero] at this
  rw [← this]
  rfl
theorem cnt_w (l : List Bool) : Txt.count (wS l) (wS [true]) = (l.count true : Int) := by
  show Txt.count (wS l) ⟨#[118]⟩ = _
  rw [count_cnt]
  show cnt 118 (l.map chB) = _
  induction l with
  | nil => rfl
  | cons b l ih =>
    rw [List.map_cons, cnt_cons, ih, List.count_cons]
    cases b
    · simp [chB]
    · simp [chB]; omega
theorem signs_w (l : List Bool) : signs (wS l) = l.map fun b => D.str (wS [b]) := by
  unfold signs
  show (l.map chB).map _ = _
  rw [List.map_map]; rfl
theorem w1_eq (a b : Bool) : (wS [a] = wS [b]) = (a = b) := by
  apply propext
  exact ⟨fun h => List.head_eq_of_cons_eq (wS_inj h), fun h => by rw [h]⟩
theorem sz_ge : 16777216 = sizeLine := rfl
/-! ### folds -/
def fS (b : Bool) : Str := if b then "over" else "under"
def fD (b : Bool) : D := .str (fS b)
def foldsD (fs : List Bool) : D := .tup (fs.map fD)
def recD (e a : List Bool) : D := .tup [foldsD e, foldsD a]
def cD (b : Bool) : D := .str (wS [b])
theorem over_ne : (Str.ofString "over") ≠ Str.ofString "under" := by decide +kernel
theorem eq_over (b : Bool) : decide (fS b = Str.ofString "over") = b := by cases b <;> decide +kernel
theorem atI_of {α : Type} {xs : List α} {i : Int} {j : Nat} {x : α} (e : i = (j : Int)) (h : xs[j]? = some x) : atI xs i = some x := by
  have hl : j < xs.length := (List.getElem?_eq_some_iff.mp h).1
  unfold atI ixN
  rw [if_pos (by omega), if_pos (by omega), e]
  exact h
theorem kbs : (kitB "int" "int" = some true ∧ kitB "int" "bool" = some false ∧ kitB "int" "str" = some false ∧ kitB "int" "tuple" = some false ∧ kitB "int" "list" = some false)
  ∧ (kitB "bool" "int" = some true ∧ kitB "bool" "bool" = some true ∧ kitB "bool" "str" = some false ∧ kitB "bool" "tuple" = some false ∧ kitB "bool" "list" = some false)
  ∧ (kitB "str" "int" = some false ∧ kitB "str" "bool" = some false ∧ kitB "str" "str" = some true ∧ kitB "str" "tuple" = some false ∧ kitB "str" "list" = some false)
  ∧ (kitB "tuple" "int" = some false ∧ kitB "tuple" "bool" = some false ∧ kitB "tuple" "str" = some false ∧ kitB "tuple" "tuple" = some true ∧ kitB "tuple" "list" = some false)
  ∧ (kitB "list" "int" = some false ∧ kitB "list" "bool" = some false ∧ kitB "list" "str" = some false ∧ kitB "list" "tuple" = some false ∧ kitB "list" "list" = some true)
  ∧ (kitB "NoneType" "int" = some false ∧ kitB "NoneType" "bool" = some false ∧ kitB "NoneType" "str" = some false ∧ kitB "NoneType" "tuple" = some false ∧ kitB "NoneType" "list" = some false) := by decide +kernel
/-! ### readings, one step each -/
section
variable {ρ : DEnv} {G : Store}
def andK (d : D) (A B : Prop) : Prop := match d with
  | .bl b => if b = true then A else B
  | _ => False
theorem andK_bl {b : Bool} {A B : Prop} : andK (.bl b) A B = if b = true then A else B := rfl
theorem dAndV_eq {fa fb : DE} {Q : DQ} {E : DXK} : dAndV fa fb ρ G Q E = fa ρ G (fun x G1 => andK x (fb ρ G1 Q E) (Q (.bl false) G1)) E := by
  unfold dAndV
  congr 1; funext x G1
  cases x <;> first | rfl | (rename_i b; cases b <;> rfl)
theorem dOrV_eq {fa fb : DE} {Q : DQ} {E : DXK} : dOrV fa fb ρ G Q E = fa ρ G (fun x G1 => andK x (Q (.bl true) G1) (fb ρ G1 Q E)) E := by
  unfold dOrV
  congr 1; funext x G1
  cases x <;> first | rfl | (rename_i b; cases b <;> rfl)
theorem dChain_eq {g g' : G2} {fa fb fc : DE} {Q : DQ} {E : DXK} : dChain g g' fa fb fc ρ G Q E = fa ρ G (fun x G1 => fb ρ G1 (fun y G2 => g x y G2 fun z G3 => andK z (fc ρ G3 (fun w G4 => g' y w G4 Q) E) (Q (.bl false) G3)) E) E := by
  unfold dChain
  congr 1; funext x G1; congr 1; funext y G2; congr 1; funext z G3
  cases z <;> first | rfl | (rename_i b; cases b <;> rfl)
theorem dAnd_eq {f g : DT} {Q : Bool → Store → Prop} {E : DXK} : dAnd f g ρ G Q E = f ρ G (fun b G1 => if b = true then g ρ G1 Q E else Q false G1) E := by
  unfold dAnd
  congr 1; funext b G1; cases b <;> rfl
theorem dOr_eq {f g : DT} {Q : Bool → Store → Prop} {E : DXK} : dOr f g ρ G Q E = f ρ G (fun b G1 => if b = true then Q true G1 else g ρ G1 Q E) E := by
  unfold dOr
  congr 1; funext b G1; cases b <;> rfl
theorem dIf_eq {f : DT} {fa fb : DE} {Q : DQ} {E : DXK} : dIf f fa fb ρ G Q E = f ρ G (fun t G1 => if t = true then fa ρ G1 Q E else fb ρ G1 Q E) E := by
  unfold dIf
  congr 1; funext b G1; cases b <;> rfl
theorem dIfS_eq {q : DT} {f f2 : DS} {B : DEnds} : dIfS q f f2 B ρ G = q ρ G (fun t G1 => if t = true then f B ρ G1 else f2 B ρ G1) B.er := by
  unfold dIfS
  congr 1; funext b G1; cases b <;> rfl
theorem ifnot {b : Bool} {A B : Prop} : (if (!b) = true then A else B) = if b = true then B else A := by cases b <;> rfl
theorem whileN_eq {q : DT} {f : DS} {B : DEnds} {n : Nat} : whileN q f B (n + 1) ρ G = q ρ G (fun t G1 => if t = true then f { B with nx := whileN q f B n, ct := whileN q f B n, bk := B.nx } ρ G1 else B.nx ρ G1) B.er := by
  conv => lhs; unfold whileN
  congr 1; funext b G1; cases b <;> rfl
end
theorem eqb_int {i j : Int} : eqb (.int i) (.int j) = decide (i = j) := Bool.beq_eq_decide_eq i j
theorem eqb_str {i j : Str} : eqb (.str i) (.str j) = decide (i = j) := Bool.beq_eq_decide_eq i j
theorem eqb_bl {i j : Bool} : eqb (.bl i) (.bl j) = (i == j) := rfl
theorem cmp_int {i j : Int} : cmpOk (.int i) (.int j) = true := rfl
theorem cmp_str {i j : Str} : cmpOk (.str i) (.str j) = true := rfl
theorem cmp_bl {i j : Bool} : cmpOk (.bl i) (.bl j) = true := rfl
theorem ifP {p : Prop} [Decidable p] {A B : Prop} (h : p) (q : A) : if p then A else B := by rw [if_pos h]; exact q
theorem ifN {p : Prop} [Decidable p] {A B : Prop} (h : ¬ p) (q : B) : if p then A else B := by rw [if_neg h]; exact q
/-- a comprehension whose items are computed one by one -/
theorem compL_map {bnd : Bnd} {fe : DE} {ρ : DEnv} {Z : List D → Store → Prop} {G : Store} (g : D → D) : ∀ (ds acc : List D), (∀ d ∈ ds, ∃ ρ', bnd d ρ = some ρ' ∧ ∀ Q : DQ, Q (g d) G → fe ρ' G Q noE) → acc.length + ds.length ≤ sizeLine → Z (acc ++ ds.map g) G → compL bnd dYes fe ρ Z ds acc G
  | [], acc, _, _, hz => by
    rw [List.map_nil, List.append_nil] at hz
    exact hz
  | d :: ds, acc, h, hl, hz => by
    obtain ⟨ρ', e, hq⟩ := h d List.mem_cons_self
    unfold compL
    rw [e]
    show fe ρ' G _ noE
    rw [List.length_cons] at hl
    refine hq _ ⟨by omega, ?_⟩
    refine compL_map g ds (acc ++ [g d]) (fun d' hd => h d' (List.mem_cons_of_mem _ hd)) (by simp; omega) ?_
    rw [List.append_assoc]
    exact hz
/-- with a test -/
theorem compL_filter {bnd : Bnd} {q : DT} {fe : DE} {ρ : DEnv} {Z : List D → Store → Prop} {G : Store} (p : D → Bool) (g : D → D) : ∀ (ds acc : List D), (∀ d ∈ ds, ∃ ρ', bnd d ρ = some ρ' ∧ (∀ Q : Bool → Store → Prop, Q (p d) G → q ρ' G Q noE) ∧ (p d = true → ∀ Q : DQ, Q (g d) G → fe ρ' G Q noE)) → acc.length + ds.length ≤ sizeLine → Z (acc ++ (ds.filter p).map g) G → compL bnd q fe ρ Z ds acc G
  | [], acc, _, _, hz => by
    rw [List.filter_nil, List.map_nil, List.append_nil] at hz
    exact hz
  | d :: ds, acc, h, hl, hz => by
    obtain ⟨ρ', e, hp, hq⟩ := h d List.mem_cons_self
    unfold compL
    rw [e]
    rw [List.length_cons] at hl
    refine hp _ ?_
    cases hpd : p d with
    | true =>
      refine hq hpd _ ⟨by omega, ?_⟩
      refine compL_filter p g ds (acc ++ [g d]) (fun d' hd => h d' (List.mem_cons_of_mem _ hd)) (by simp; omega) ?_
      rw [List.filter_cons_of_pos (by exact hpd), List.map_cons] at hz
      rw [List.append_assoc]
      exact hz
    | false =>
      refine compL_filter p g ds acc (fun d' hd => h d' (List.mem_cons_of_mem _ hd)) (by omega) ?_
      rw [List.filter_cons_of_neg (by rw [hpd]; exact Bool.false_ne_true)] at hz
      exact hz
/-- the items may change the store -/
theorem compL_J {bnd : Bnd} {fe : DE} {ρ : DEnv} {Z : List D → Store → Prop} (J : List D → Store → Prop) : ∀ (ds acc : List D) (G : Store), J acc G → (∀ d ∈ ds, ∃ ρ', bnd d ρ = some ρ' ∧ ∀ acc G (Q : DQ), J acc G → (∀ y G', J (acc ++ [y]) G' → Q y G') → fe ρ' G Q noE) → acc.length + ds.length ≤ sizeLine → (∀ acc' G', acc'.length = acc.length + ds.length → J acc' G' → Z acc' G') → compL bnd dYes fe ρ Z ds acc G
  | [], acc, G, hj, _, _, hz => hz _ _ (by simp) hj
  | d :: ds, acc, G, hj, h, hl, hz => by
    obtain ⟨ρ', e, hq⟩ := h d List.mem_cons_self
    unfold compL
    rw [e]
    show fe ρ' G _ noE
    rw [List.length_cons] at hl hz
    refine hq acc G _ hj fun y G' hj' => ⟨by omega, ?_⟩
    refine compL_J J ds (acc ++ [y]) G' hj' (fun d' hd => h d' (List.mem_cons_of_mem _ hd)) (by simp; omega) fun acc' G'' hlen hj'' => hz acc' G'' ?_ hj''
    rw [hlen, List.length_append]; simp; omega
end FD

set_option Elab.async false
set_option linter.all false
set_option maxRecDepth 100000
set_option maxHeartbeats 4000000
set_option autoImplicit false
/-! Readings of the program's defs: recipes, folds, creases. -/
namespace FD
open PySem PySem.Spec PyProof.Rows L2
local macro_rules | `(tactic| walk_at "rd") => `(tactic| simp only [startD, wipeD, dVar, dC, dOp, dUn, dCB, dCons, dNil, dRet, dSeq, dNext, dPass, dDrop, dIfS_eq, dAsg, dgName, dgTupN, dgCons, dgNil, dPar, dB, dAnd_eq, dOr_eq, dNot, dAndV_eq, dOrV_eq, dNotV, dIf_eq, dTup, dLst, dNeg, dChain_eq, dCall, dRaise, dImm, dMut, dYes, dRev, dM1, dSl, dNone, dPart, andK_bl, ifnot,
  gAdd, gSub, gMul, gDiv, gMod, gPow, gEq, gNe, gCmpI, gIx, gSl, gLen, gInt, gAbs, gMax, gMin, gTuple, gList, gIsi, gIn, gIsN, gNotN, isNon, gCount, kbs, eqb_int, eqb_str, eqb_bl, cmp_int, cmp_str, cmp_bl,
  List.map_cons, List.map_nil, List.replicate, List.length_cons, List.length_nil, List.cons_append, List.nil_append, List.append_nil, Bool.not_true, Bool.not_false,
  List.getElem?_cons_zero, List.getElem?_cons_succ, List.set_cons_zero, List.set_cons_succ, Option.some.injEq, exists_eq_left', exists_eq_left, true_and, and_true, Nat.reduceAdd, Nat.reduceSub, tyN, reduceCtorEq, false_and, exists_false, decide_eq_true_eq, if_true, if_false, Bool.false_eq_true])
abbrev endD (Q : DQ) (E : DXK) : DEnds := { nx := fun _ G => Q .non G, rt := Q, er := E }
/-! is_integer -/
def isIntD (lo hi : Int) : D → Bool
  | .int i => decide (lo ≤ i) && decide (i ≤ hi)
  | _ => false
def r_is_integer : DS := (dRet (dAndV (dCB gIsi (dCons (dVar 0) (dCons (dC (.obj (.ty "int"))) dNil))) (dAndV (dNotV (dCB gIsi (dCons (dVar 0) (dCons (dC (.obj (.ty "bool"))) dNil)))) (dChain gLe gLe (dVar 1) (dVar 0) (dVar 2)))))
def n_is_integer : List Str := ["value", "low", "high"]
def sp_is_integer : DSp
  | [d, .int lo, .int hi], G, Q, _ => fit 60 d = true ∧ Q (.bl (isIntD lo hi d)) G
  | _, _, _, _ => False
theorem len_is_integer {ds : List D} {G : Store} {Q : DQ} {E : DXK} (h : sp_is_integer ds G Q E) : ds.length = 3 := by
  unfold sp_is_integer at h
  split at h
  · rfl
  · exact h.elim
theorem rd_is_integer : ∀ ds G Q E, sp_is_integer ds G Q E → r_is_integer (endD Q E) (startD n_is_integer ds) G := by
  intro ds G Q E h
  unfold sp_is_integer at h
  split at h
  · rename_i d lo hi
    obtain ⟨hf, q⟩ := h
    unfold r_is_integer n_is_integer
    walk_at "rd"
    cases d with
    | int i =>
      walk_at "rd"
      unfold isIntD at q
      by_cases h1 : lo ≤ i
      · rw [if_pos h1]; simpa [h1] using q
      · rw [if_neg h1]; simpa [h1] using q
    | bl b => walk_at "rd"; exact q
    | non => walk_at "rd"; exact q
    | str _ => walk_at "rd"; exact q
    | tup _ => walk_at "rd"; exact q
    | lst _ => walk_at "rd"; exact q
    | scr _ => exact absurd hf Bool.false_ne_true
    | obj _ => exact absurd hf Bool.false_ne_true
  · exact h.elim
/-! is_fold, are_folds, is_recipe -/
def isFoldD : D → Bool
  | .str z => decide (z = "over") || decide (z = "under")
  | _ => false
def r_is_fold : DS := (dRet (dAndV (dCB gIsi (dCons (dVar 0) (dCons (dC (.obj (.ty "str"))) dNil))) (dOp (gIn false) (dVar 0) (dTup (dCons (dC (.str "over")) (dCons (dC (.str "under")) dNil))))))
def n_is_fold : List Str := ["value"]
def sp_is_fold : DSp
  | [d], G, Q, _ => fit 60 d = true ∧ Q (.bl (isFoldD d)) G
  | _, _, _, _ => False
theorem len_is_fold {ds : List D} {G : Store} {Q : DQ} {E : DXK} (h : sp_is_fold ds G Q E) : ds.length = 1 := by
  unfold sp_is_fold at h
  split at h
  · rfl
  · exact h.elim
theorem inD2 (z : Str) (a b : Str) : inD (.str z) [.str a, .str b] = (decide (z = a) || decide (z = b)) := by
  unfold inD
  rw [List.any_cons, List.any_cons, List.any_nil, Bool.or_false]
  have e : ∀ x y : Str, eqb (.str x) (.str y) = decide (y = x) := fun x y => by
    show (x == y) = _
    rw [Bool.beq_eq_decide_eq x y, decide_eq_decide]; exact eq_comm
  rw [e, e]
theorem rd_is_fold : ∀ ds G Q E, sp_is_fold ds G Q E → r_is_fold (endD Q E) (startD n_is_fold ds) G := by
  intro ds G Q E h
  unfold sp_is_fold at h
  split at h
  · rename_i d
    obtain ⟨hf, q⟩ := h
    unfold r_is_fold n_is_fold
    walk_at "rd"
    cases d with
    | str z => 
      walk_at "rd"
      refine ⟨by decide, ⟨rfl, rfl⟩, ?_⟩
      rw [inD2]; exact q
    | int i => walk_at "rd"; exact q
    | bl b => walk_at "rd"; exact q
    | non => walk_at "rd"; exact q
    | tup _ => walk_at "rd"; exact q
    | lst _ => walk_at "rd"; exact q
    | scr _ => exact absurd hf Bool.false_ne_true
    | obj _ => exact absurd hf Bool.false_ne_true
  · exact h.elim
def areFoldsD : D → Bool
  | .tup ds => ds.all isFoldD
  | _ => false
/-- plain data of some depth, no tuple of it longer than a thousand -/
def okD : Nat → D → Bool
  | _, .non => true
  | _, .bl _ => true
  | _, .int _ => true
  | _, .str z => decide (z.length ≤ 1000) && PySem.PyData.strOk z
  | n + 1, .tup ds => decide (ds.length ≤ 1000) && ds.all (okD n)
  | n + 1, .lst ds => decide (ds.length ≤ 1000) && ds.all (okD n)
  | _, _ => false
theorem okD_fit : ∀ (n : Nat) (d : D), okD n d = true → fit n d = true
  | n, .non, _ => by cases n <;> rfl
  | n, .bl _, _ => by cases n <;> rfl
  | n, .int _, _ => by cases n <;> rfl
  | n, .str z, h => by cases n <;> exact (Bool.and_eq_true_iff.mp h).2
  | 0, .tup _, h => by cases h
  | 0, .lst _, h => by cases h
  | n + 1, .tup ds, h => by
    unfold okD at h
    rw [Bool.and_eq_true] at h
    unfold fit
    rw [List.all_eq_true] at h ⊢
    exact fun d hd => okD_fit n d (h.2 d hd)
  | n + 1, .lst ds, h => by
    unfold okD at h
    rw [Bool.and_eq_true] at h
    unfold fit
    rw [List.all_eq_true] at h ⊢
    exact fun d hd => okD_fit n d (h.2 d hd)
  | 0, .scr _, h => by cases h
  | n + 1, .scr _, h => by cases h
  | 0, .obj _, h => by cases h
  | n + 1, .obj _, h => by cases h
theorem okD_up : ∀ (n m : Nat) (d : D), n ≤ m → okD n d = true → okD m d = true
  | n, m, .non, _, _ => by cases m <;> rfl
  | n, m, .bl _, _, _ => by cases m <;> rfl
  | n, m, .int _, _, _ => by cases m <;> rfl
  | n, m, .str _, _, h => by cases n <;> cases m <;> exact h
  | 0, _, .tup _, _, h => by cases h
  | 0, _, .lst _, _, h => by cases h
  | n + 1, 0, .tup ds, l, h => by omega
  | n + 1, 0, .lst ds, l, h => by omega
  | n + 1, m + 1, .tup ds, l, h => by
    unfold okD at h ⊢
    rw [Bool.and_eq_true, List.all_eq_true] at h ⊢
    exact ⟨h.1, fun d hd => okD_up n m d (by omega) (h.2 d hd)⟩
  | n + 1, m + 1, .lst ds, l, h => by
    unfold okD at h ⊢
    rw [Bool.and_eq_true, List.all_eq_true] at h ⊢
    exact ⟨h.1, fun d hd => okD_up n m d (by omega) (h.2 d hd)⟩
  | 0, _, .scr _, _, h => by cases h
  | n + 1, _, .scr _, _, h => by cases h
  | 0, _, .obj _, _, h => by cases h
  | n + 1, _, .obj _, _, h => by cases h
def r_are_folds : DS := (dRet (dAndV (dCB gIsi (dCons (dVar 0) (dCons (dC (.obj (.ty "tuple"))) dNil))) (dCB gAll (dCons (dImm (dComp (dItT (dVar 0)) (bN 1) [1] dYes (dCall sp_is_fold (dCons (dVar 1) dNil)))) dNil))))
def n_are_folds : List Str := ["value", "fold"]
def sp_are_folds : DSp
  | [d], G, Q, _ => okD 50 d = true ∧ Q (.bl (areFoldsD d)) G
  | _, _, _, _ => False
theorem len_are_folds {ds : List D} {G : Store} {Q : DQ} {E : DXK} (h : sp_are_folds ds G Q E) : ds.length = 1 := by
  unfold sp_are_folds at h
  split at h
  · rfl
  · exact h.elim
theorem rd_are_folds : ∀ ds G Q E, sp_are_folds ds G Q E → r_are_folds (endD Q E) (startD n_are_folds ds) G := by
  intro ds G Q E h
  unfold sp_are_folds at h
  split at h
  · rename_i d
    obtain ⟨hf, q⟩ := h
    unfold r_are_folds n_are_folds
    walk_at "rd"
    cases d with
    | tup ds => 
      walk_at "rd"
      unfold okD at hf
      rw [Bool.and_eq_true, List.all_eq_true] at hf
      have hl := of_decide_eq_true hf.1
      unfold dComp dItT
      walk_at "rd"
      refine compL_map (fun d => .bl (isFoldD d)) ds [] (fun d hd => ⟨_, rfl, fun Q hq => ?_⟩) (by rw [← sz_ge]; simp; omega) ?_
      · walk_at "rd"
        unfold sp_is_fold
        exact ⟨okD_fit 60 d (okD_up 49 60 d (by omega) (hf.2 d hd)), hq⟩
      · unfold gAll
        refine ⟨ds.map isFoldD, by rw [List.nil_append, List.map_map]; rfl, ?_⟩
        rw [List.all_map]
        exact q
    | str z => walk_at "rd"; exact q
    | int i => walk_at "rd"; exact q
    | bl b => walk_at "rd"; exact q
    | non => walk_at "rd"; exact q
    | lst _ => walk_at "rd"; exact q
    | scr _ => exact absurd hf Bool.false_ne_true
    | obj _ => exact absurd hf Bool.false_ne_true
  · exact h.elim
end FD

set_option Elab.async false
set_option linter.all false
set_option maxRecDepth 100000
set_option maxHeartbeats 4000000
set_option autoImplicit false
/-! Readings of the program's defs: recipes, powers, folds. -/
namespace FD
open PySem PySem.Spec PyProof.Rows L2
local macro_rules | `(tactic| walk_at "rd") => `(tactic| simp only [startD, wipeD, dVar, dC, dOp, dUn, dCB, dCons, dNil, dRet, dSeq, dNext, dPass, dDrop, dIfS_eq, dAsg, dgName, dgTupN, dgCons, dgNil, dPar, dB, dAnd_eq, dOr_eq, dNot, dAndV_eq, dOrV_eq, dNotV, dIf_eq, dTup, dLst, dNeg, dChain_eq, dCall, dRaise, dImm, dMut, dYes, dRev, dM1, dSl, dNone, dPart, andK_bl, ifnot,
  gAdd, gSub, gMul, gDiv, gMod, gPow, gEq, gNe, gCmpI, gIx, gSl, gLen, gInt, gAbs, gMax, gMin, gTuple, gList, gIsi, gIn, gIsN, gNotN, isNon, gCount, kbs, eqb_int, eqb_str, eqb_bl, cmp_int, cmp_str, cmp_bl,
  List.map_cons, List.map_nil, List.replicate, List.length_cons, List.length_nil, List.cons_append, List.nil_append, List.append_nil, Bool.not_true, Bool.not_false,
  List.getElem?_cons_zero, List.getElem?_cons_succ, List.set_cons_zero, List.set_cons_succ, Option.some.injEq, exists_eq_left', exists_eq_left, true_and, and_true, Nat.reduceAdd, Nat.reduceSub, tyN, reduceCtorEq, false_and, exists_false, decide_eq_true_eq, if_true, if_false, Bool.false_eq_true])
def lenD : D → Nat
  | .tup ds => ds.length
  | _ => 0
def isRecD : D → Bool
  | .tup [a, b] => areFoldsD a && areFoldsD b && decide (lenD a ≤ 12) && decide (1 ≤ lenD b) && decide (lenD b ≤ 12)
  | _ => false
theorem isRecD_pair {a b : D} : isRecD (.tup [a, b]) = (areFoldsD a && areFoldsD b && decide (lenD a ≤ 12) && decide (1 ≤ lenD b) && decide (lenD b ≤ 12)) := rfl
def r_is_recipe : DS := (dSeq (dIfS (dOr (dNot (dB (dCB gIsi (dCons (dVar 0) (dCons (dC (.obj (.ty "tuple"))) dNil))))) (dOr (dB (dOp gNe (dCB gLen (dCons (dVar 0) dNil)) (dC (.int 2)))) (dOr (dNot (dB (dCall sp_are_folds (dCons (dOp gIx (dVar 0) (dC (.int 0))) dNil)))) (dNot (dB (dCall sp_are_folds (dCons (dOp gIx (dVar 0) (dC (.int 1))) dNil))))))) (dRet (dC (.bl false))) dNext)
  (dRet (dAndV (dOp gLe (dCB gLen (dCons (dOp gIx (dVar 0) (dC (.int 0))) dNil)) (dC (.int 12))) (dChain gLe gLe (dC (.int 1)) (dCB gLen (dCons (dOp gIx (dVar 0) (dC (.int 1))) dNil)) (dC (.int 12))))))
def n_is_recipe : List Str := ["value"]
def sp_is_recipe : DSp
  | [d], G, Q, _ => okD 50 d = true ∧ Q (.bl (isRecD d)) G
  | _, _, _, _ => False
theorem len_is_recipe {ds : List D} {G : Store} {Q : DQ} {E : DXK} (h : sp_is_recipe ds G Q E) : ds.length = 1 := by
  unfold sp_is_recipe at h
  split at h
  · rfl
  · exact h.elim
theorem atI0 {x : D} {l : List D} : atI (x :: l) 0 = some x := atI_of (j := 0) rfl rfl
theorem atI1 {x y : D} {l : List D} : atI (x :: y :: l) 1 = some y := atI_of (j := 1) rfl rfl
theorem foldsT {d : D} (h : areFoldsD d = true) : ∃ fs : List Bool, d = foldsD fs := by
  cases d with
  | tup ds =>
    have h : ds.all isFoldD = true := h
    refine ⟨ds.map fun d => match d with | .str z => decide (z = "over") | _ => false, ?_⟩
    unfold foldsD
    rw [List.map_map]
    congr 1
    rw [List.all_eq_true] at h
    conv => lhs; rw [← List.map_id ds]
    refine List.map_congr_left fun d hd => ?_
    have := h d hd
    cases d with
    | str z =>
      unfold isFoldD at this
      show D.str z = fD (decide (z = "over"))
      by_cases e : z = "over"
      · subst e; rfl
      · have e2 : z = "under" := by
          rw [Bool.or_eq_true] at this
          rcases this with q | q
          · exact absurd (of_decide_eq_true q) e
          · exact of_decide_eq_true q
        subst e2
        rw [decide_eq_false e]; rfl
    | _ => exact absurd this Bool.false_ne_true
  | _ => exact absurd h Bool.false_ne_true
theorem foldsD_are (fs : List Bool) : areFoldsD (foldsD fs) = true := by
  show (fs.map fD).all isFoldD = true
  rw [List.all_map, List.all_eq_true]
  intro b _
  cases b <;> decide +kernel
theorem lenD_folds (fs : List Bool) : lenD (foldsD fs) = fs.length := by
  show (fs.map fD).length = _
  rw [List.length_map]
theorem isRec_iff {d : D} : isRecD d = true ↔ ∃ e a : List Bool, d = recD e a ∧ e.length ≤ 12 ∧ 1 ≤ a.length ∧ a.length ≤ 12 := by
  constructor
  · intro h
    unfold isRecD at h
    split at h
    · rw [Bool.and_eq_true, Bool.and_eq_true, Bool.and_eq_true, Bool.and_eq_true] at h
      obtain ⟨⟨⟨⟨h1, h2⟩, h3⟩, h4⟩, h5⟩ := h
      obtain ⟨e, rfl⟩ := foldsT h1
      obtain ⟨a, rfl⟩ := foldsT h2
      rw [lenD_folds] at h3 h4 h5
      exact ⟨e, a, rfl, of_decide_eq_true h3, of_decide_eq_true h4, of_decide_eq_true h5⟩
    · exact absurd h Bool.false_ne_true
  · rintro ⟨e, a, rfl, h1, h2, h3⟩
    show (areFoldsD (foldsD e) && areFoldsD (foldsD a) && decide (lenD (foldsD e) ≤ 12) && decide (1 ≤ lenD (foldsD a)) && decide (lenD (foldsD a) ≤ 12)) = true
    rw [foldsD_are, foldsD_are, lenD_folds, lenD_folds, decide_eq_true h1, decide_eq_true h2, decide_eq_true h3]; rfl
theorem rd_is_recipe : ∀ ds G Q E, sp_is_recipe ds G Q E → r_is_recipe (endD Q E) (startD n_is_recipe ds) G := by
  intro ds G Q E h
  unfold sp_is_recipe at h
  split at h
  · rename_i d
    obtain ⟨hf, q⟩ := h
    unfold r_is_recipe n_is_recipe
    walk_at "rd"
    cases d with
    | tup ds =>
      walk_at "rd"
      match ds, hf, q with
      | [], hf, q => walk_at "rd"; exact ifN (by decide) q
      | [_], hf, q => walk_at "rd"; exact ifN (by decide) q
      | _ :: _ :: _ :: _, hf, q =>
        refine ifN (by simp; omega) ?_
        exact q
      | [a, b], hf, q =>
        refine ifP (by rfl) ?_
        simp only [atI0, atI1, exists_eq_left', Option.some.injEq]
        unfold okD at hf
        simp only [List.all_cons, List.all_nil, Bool.and_eq_true] at hf
        have ha := okD_up 49 50 a (by omega) hf.2.1
        have hb := okD_up 49 50 b (by omega) hf.2.2.1
        refine ⟨ha, ?_⟩
        walk_at "rd"
        cases ea : areFoldsD a with
        | false =>
          refine ifN Bool.false_ne_true ?_
          have : isRecD (.tup [a, b]) = false := by rw [isRecD_pair, ea]; rfl
          rw [this] at q; exact q
        | true =>
          refine ifP rfl ⟨hb, ?_⟩
          walk_at "rd"
          cases eb : areFoldsD b with
          | false =>
            refine ifN Bool.false_ne_true ?_
            have : isRecD (.tup [a, b]) = false := by rw [isRecD_pair, ea, eb]; rfl
            rw [this] at q; exact q
          | true =>
            refine ifP rfl ?_
            obtain ⟨e, rfl⟩ := foldsT ea
            obtain ⟨f, rfl⟩ := foldsT eb
            rw [isRecD_pair, ea, eb, lenD_folds, lenD_folds] at q
            unfold foldsD
            walk_at "rd"
            rw [List.length_map, List.length_map]
            by_cases h1 : e.length ≤ 12
            · refine ifP (by omega) ?_
              by_cases h2 : 1 ≤ f.length
              · refine ifP (by omega) ?_
                rw [decide_eq_true h1, decide_eq_true h2] at q
                have : decide ((f.length : Int) ≤ 12) = decide (f.length ≤ 12) := by rw [decide_eq_decide]; omega
                rw [this]; exact q
              · refine ifN (by omega) ?_
                rw [decide_eq_true h1, decide_eq_false h2] at q; exact q
            · refine ifN (by omega) ?_
              rw [decide_eq_false h1] at q; exact q
    | str z => walk_at "rd"; exact q
    | int i => walk_at "rd"; exact q
    | bl b => walk_at "rd"; exact q
    | non => walk_at "rd"; exact q
    | lst _ => walk_at "rd"; exact q
    | scr _ => exact absurd hf Bool.false_ne_true
    | obj _ => exact absurd hf Bool.false_ne_true
  · exact h.elim
def r_need_recipe : DS := (dIfS (dNot (dB (dCall sp_is_recipe (dCons (dVar 0) dNil)))) (dRaise "InvalidRecipe") dNext)
def n_need_recipe : List Str := ["value"]
def sp_need_recipe : DSp
  | [d], G, Q, E => okD 50 d = true ∧ (if isRecD d = true then Q .non G else E "InvalidRecipe" G)
  | _, _, _, _ => False
theorem len_need_recipe {ds : List D} {G : Store} {Q : DQ} {E : DXK} (h : sp_need_recipe ds G Q E) : ds.length = 1 := by
  unfold sp_need_recipe at h
  split at h
  · rfl
  · exact h.elim
theorem rd_need_recipe : ∀ ds G Q E, sp_need_recipe ds G Q E → r_need_recipe (endD Q E) (startD n_need_recipe ds) G := by
  intro ds G Q E h
  unfold sp_need_recipe at h
  split at h
  · rename_i d
    obtain ⟨hf, q⟩ := h
    unfold r_need_recipe n_need_recipe
    walk_at "rd"
    unfold sp_is_recipe
    walk_at "rd"
    exact ⟨hf, q⟩
  · exact h.elim
def r_need_many : DS := (dIfS (dNot (dB (dCall sp_is_integer (dCons (dVar 0) (dCons (dC (.int 0)) (dCons (dC (.int 100)) dNil)))))) (dRaise "InvalidNumber") dNext)
def n_need_many : List Str := ["value"]
def sp_need_many : DSp
  | [d], G, Q, E => okD 50 d = true ∧ (if isIntD 0 100 d = true then Q .non G else E "InvalidNumber" G)
  | _, _, _, _ => False
theorem len_need_many {ds : List D} {G : Store} {Q : DQ} {E : DXK} (h : sp_need_many ds G Q E) : ds.length = 1 := by
  unfold sp_need_many at h
  split at h
  · rfl
  · exact h.elim
theorem rd_need_many : ∀ ds G Q E, sp_need_many ds G Q E → r_need_many (endD Q E) (startD n_need_many ds) G := by
  intro ds G Q E h
  unfold sp_need_many at h
  split at h
  · rename_i d
    obtain ⟨hf, q⟩ := h
    unfold r_need_many n_need_many
    walk_at "rd"
    unfold sp_is_integer
    walk_at "rd"
    exact ⟨okD_fit _ _ (okD_up _ 60 _ (by omega) hf), q⟩
  · exact h.elim
/-! power -/
def r_power : DS := (dSeq (dAsg (dC (.int 1)) (dgName 1))
  (dSeq (dFor (dItR1 (dCons (dVar 0) dNil)) (dgName 2) (dAsg (dOp gMul (dVar 1) (dC (.int 2))) (dgName 1)))
  (dRet (dVar 1))))
def n_power : List Str := ["many", "found", "turn"]
def sp_power : DSp
  | [.int i], G, Q, _ => (0 ≤ i ∧ i ≤ 1000) ∧ Q (.int ((2 ^ i.toNat : Nat) : Int)) G
  | _, _, _, _ => False
theorem len_power {ds : List D} {G : Store} {Q : DQ} {E : DXK} (h : sp_power ds G Q E) : ds.length = 1 := by
  unfold sp_power at h
  split at h
  · rfl
  · exact h.elim
/-- doubling again and again -/
theorem for_double {Q : DQ} {E : DXK} {m : D} {G : Store} : ∀ (ds : List D) (k : Nat) (t : Option D), Q (.int ((2 ^ (k + ds.length) : Nat) : Int)) G →
    forL (dgName 2) (dAsg (dOp gMul (dVar 1) (dC (.int 2))) (dgName 1)) { nx := dRet (dVar 1) (endD Q E), rt := Q, er := E } ds [some m, some (.int ((2 ^ k : Nat) : Int)), t] G
  | [], k, t, h => by
    unfold forL
    walk_at "rd"
    exact h
  | d :: ds, k, t, h => by
    unfold forL
    walk_at "rd"
    refine ⟨.inr (.inl (by decide)), ?_⟩
    have e : ((2 ^ k : Nat) : Int) * 2 = ((2 ^ (k + 1) : Nat) : Int) := by
      rw [Nat.pow_succ]; simp
    rw [e]
    refine for_double ds (k + 1) (some d) ?_
    have e2 : k + 1 + ds.length = k + (d :: ds).length := by rw [List.length_cons]; omega
    rw [e2]; exact h
theorem rd_power : ∀ ds G Q E, sp_power ds G Q E → r_power (endD Q E) (startD n_power ds) G := by
  intro ds G Q E h
  unfold sp_power at h
  split at h
  · rename_i i
    obtain ⟨hf, q⟩ := h
    unfold r_power n_power
    walk_at "rd"
    unfold dFor dItR1
    walk_at "rd"
    refine ⟨⟨by omega, by omega⟩, ?_⟩
    refine for_double (upto 0 i.toNat) 0 none ?_
    rw [upto_len, Nat.zero_add]; exact q
  · exact h.elim
end FD

set_option Elab.async false
set_option linter.all false
set_option maxRecDepth 100000
set_option maxHeartbeats 4000000
set_option autoImplicit false
/-! Readings of the program's defs: creases. -/
namespace FD
open PySem PySem.Spec PyProof.Rows L2
local macro_rules | `(tactic| walk_at "rd") => `(tactic| simp only [startD, wipeD, dVar, dC, dOp, dUn, dCB, dCons, dNil, dRet, dSeq, dNext, dPass, dDrop, dIfS_eq, dAsg, dgName, dgTupN, dgCons, dgNil, dPar, dB, dAnd_eq, dOr_eq, dNot, dAndV_eq, dOrV_eq, dNotV, dIf_eq, dTup, dLst, dNeg, dChain_eq, dCall, dRaise, dImm, dMut, dYes, dRev, dM1, dSl, dNone, dPart, andK_bl, ifnot,
  gAdd, gSub, gMul, gDiv, gMod, gPow, gEq, gNe, gCmpI, gIx, gSl, gLen, gInt, gAbs, gMax, gMin, gTuple, gList, gIsi, gIn, gIsN, gNotN, isNon, gCount, kbs, eqb_int, eqb_str, eqb_bl, cmp_int, cmp_str, cmp_bl,
  List.map_cons, List.map_nil, List.replicate, List.length_cons, List.length_nil, List.cons_append, List.nil_append, List.append_nil, Bool.not_true, Bool.not_false,
  List.getElem?_cons_zero, List.getElem?_cons_succ, List.set_cons_zero, List.set_cons_succ, Option.some.injEq, exists_eq_left', exists_eq_left, true_and, and_true, Nat.reduceAdd, Nat.reduceSub, tyN, reduceCtorEq, false_and, exists_false, decide_eq_true_eq, if_true, if_false, Bool.false_eq_true])
def r_item_of : DS := (dSeq (dAsg (dVar 0) (dgTupN 2 (dgCons (dgName 2) (dgCons (dgName 3) dgNil))))
  (dSeq (dIfS (dB (dOp gLt (dVar 1) (dCB gLen (dCons (dVar 2) dNil)))) (dRet (dOp gIx (dVar 2) (dVar 1))) dNext)
  (dRet (dOp gIx (dVar 3) (dOp gMod (dOp gSub (dVar 1) (dCB gLen (dCons (dVar 2) dNil))) (dCB gLen (dCons (dVar 3) dNil)))))))
def n_item_of : List Str := ["pair", "number", "early", "again"]
def sp_item_of : DSp
  | [.tup [.tup es, .tup as], .int k], G, Q, _ => ∃ e a : List Bool, es = e.map fD ∧ as = a.map fD ∧ 0 < a.length ∧ 0 ≤ k ∧ Q (fD (itemB e a k.toNat)) G
  | _, _, _, _ => False
theorem len_item_of {ds : List D} {G : Store} {Q : DQ} {E : DXK} (h : sp_item_of ds G Q E) : ds.length = 2 := by
  unfold sp_item_of at h
  split at h
  · rfl
  · exact h.elim
theorem rd_item_of : ∀ ds G Q E, sp_item_of ds G Q E → r_item_of (endD Q E) (startD n_item_of ds) G := by
  intro ds G Q E h
  unfold sp_item_of at h
  split at h
  · rename_i k
    obtain ⟨e, a, rfl, rfl, ha, hk, q⟩ := h
    unfold r_item_of n_item_of
    walk_at "rd"
    rw [List.length_map, List.length_map]
    unfold itemB at q
    by_cases h1 : k.toNat < e.length
    · refine ifP (by omega) ⟨fD (e[k.toNat]'h1), atI_of (j := k.toNat) (by omega) ?_, ?_⟩
      · rw [List.getElem?_map, List.getElem?_eq_getElem h1]; rfl
      · rw [if_pos h1, List.getD_eq_getElem?_getD, List.getElem?_eq_getElem h1] at q; exact q
    · refine ifN (by omega) ⟨by omega, ?_⟩
      have hb : (k.toNat - e.length) % a.length < a.length := Nat.mod_lt _ ha
      refine ⟨fD (a[(k.toNat - e.length) % a.length]'hb), atI_of (j := (k.toNat - e.length) % a.length) ?_ ?_, ?_⟩
      · have e1 : k - (e.length : Int) = ((k.toNat - e.length : Nat) : Int) := by omega
        rw [e1]; rfl
      · rw [List.getElem?_map, List.getElem?_eq_getElem hb]; rfl
      · rw [if_neg h1, List.getD_eq_getElem?_getD, List.getElem?_eq_getElem hb] at q; exact q
  · exact h.elim
def r_folds_of : DS := (dRet (dCB gTuple (dCons (dImm (dComp (dItR1 (dCons (dVar 1) dNil)) (bN 2) [2] dYes (dCall sp_item_of (dCons (dVar 0) (dCons (dVar 2) dNil))))) dNil)))
def n_folds_of : List Str := ["recipe", "many", "number"]
def sp_folds_of : DSp
  | [.tup [.tup es, .tup as], .int n], G, Q, _ => ∃ e a : List Bool, es = e.map fD ∧ as = a.map fD ∧ 0 < a.length ∧ (0 ≤ n ∧ n ≤ 1000) ∧ Q (foldsD (foldsB e a n.toNat)) G
  | _, _, _, _ => False
theorem len_folds_of {ds : List D} {G : Store} {Q : DQ} {E : DXK} (h : sp_folds_of ds G Q E) : ds.length = 2 := by
  unfold sp_folds_of at h
  split at h
  · rfl
  · exact h.elim
theorem mem_upto {lo : Int} {n : Nat} {d : D} (h : d ∈ upto lo n) : ∃ i : Nat, i < n ∧ d = .int (lo + (i : Int)) := by
  unfold upto at h
  rw [List.mem_map] at h
  obtain ⟨i, hi, e⟩ := h
  exact ⟨i, List.mem_range.mp hi, e.symm⟩
/-- the number within -/
def natD : D → Nat
  | .int i => i.toNat
  | _ => 0
def intD : D → Int
  | .int i => i
  | _ => 0
theorem rd_folds_of : ∀ ds G Q E, sp_folds_of ds G Q E → r_folds_of (endD Q E) (startD n_folds_of ds) G := by
  intro ds G Q E h
  unfold sp_folds_of at h
  split at h
  · rename_i n
    obtain ⟨e, a, rfl, rfl, ha, hk, q⟩ := h
    unfold r_folds_of n_folds_of
    walk_at "rd"
    unfold dComp dItR1
    walk_at "rd"
    refine ⟨⟨by omega, by omega⟩, ?_⟩
    refine compL_map (fun d => fD (itemB e a (natD d))) _ [] (fun d hd => ⟨_, rfl, fun Q hq => ?_⟩) (by rw [← sz_ge, upto_len]; simp; omega) ?_
    · obtain ⟨i, hi, rfl⟩ := mem_upto hd
      walk_at "rd"
      exact ⟨e, a, rfl, rfl, ha, by omega, hq⟩
    · walk_at "rd"
      unfold foldsD foldsB at q
      rw [List.map_map] at q
      unfold upto
      rw [List.map_map]
      have e : (List.range n.toNat).map ((fun d => fD (itemB e a (natD d))) ∘ fun (i : Nat) => D.int (0 + (i : Int))) = (List.range n.toNat).map (fD ∘ itemB e a) := List.map_congr_left fun i _ => by
        show fD (itemB e a (0 + (i : Int)).toNat) = _
        have : (0 + (i : Int)).toNat = i := by omega
        rw [this]; rfl
      rw [e]; exact q
  · exact h.elim
def r_last_place : DS := (dRet (dOp gSub (dCall sp_power (dCons (dVar 0) dNil)) (dC (.int 1))))
def n_last_place : List Str := ["many"]
def sp_last_place : DSp
  | [.int i], G, Q, _ => (0 ≤ i ∧ i ≤ 1000) ∧ Q (.int ((2 ^ i.toNat : Nat) - 1 : Int)) G
  | _, _, _, _ => False
theorem len_last_place {ds : List D} {G : Store} {Q : DQ} {E : DXK} (h : sp_last_place ds G Q E) : ds.length = 1 := by
  unfold sp_last_place at h
  split at h
  · rfl
  · exact h.elim
theorem rd_last_place : ∀ ds G Q E, sp_last_place ds G Q E → r_last_place (endD Q E) (startD n_last_place ds) G := by
  intro ds G Q E h
  unfold sp_last_place at h
  split at h
  · rename_i i
    obtain ⟨hf, q⟩ := h
    unfold r_last_place n_last_place
    walk_at "rd"
    unfold sp_power
    walk_at "rd"
    exact ⟨hf, q⟩
  · exact h.elim
/-! halved -/
def r_halved : DS := (dSeq (dAsg (dC (.int 0)) (dgName 1))
  (dSeq (dWhile (dB (dOp gEq (dOp gMod (dVar 0) (dC (.int 2))) (dC (.int 0)))) (dPar 0 1 (dCons (dOp gDiv (dVar 0) (dC (.int 2))) (dCons (dOp gAdd (dVar 1) (dC (.int 1))) dNil))))
  (dRet (dTup (dCons (dVar 1) (dCons (dVar 0) dNil))))))
def n_halved : List Str := ["place", "exponent"]
def sp_halved : DSp
  | [.int p], G, Q, _ => 0 < p ∧ ∀ k o : Nat, p.toNat = 2 ^ k * o → o % 2 = 1 → Q (.tup [.int k, .int o]) G
  | _, _, _, _ => False
theorem len_halved {ds : List D} {G : Store} {Q : DQ} {E : DXK} (h : sp_halved ds G Q E) : ds.length = 1 := by
  unfold sp_halved at h
  split at h
  · rfl
  · exact h.elim
theorem odd_mod {p : Nat} : ((p : Int) % 2 = 0) ↔ p % 2 = 0 := by omega
theorem while_halved {Q : DQ} {E : DXK} {G : Store} : ∀ (n p : Nat) (e : Nat), p ≤ n → 0 < p → (∀ k o : Nat, p = 2 ^ k * o → o % 2 = 1 → Q (.tup [.int ((e + k : Nat) : Int), .int o]) G) →
    ∃ m, whileN (dB (dOp gEq (dOp gMod (dVar 0) (dC (.int 2))) (dC (.int 0)))) (dPar 0 1 (dCons (dOp gDiv (dVar 0) (dC (.int 2))) (dCons (dOp gAdd (dVar 1) (dC (.int 1))) dNil)))
      { nx := dRet (dTup (dCons (dVar 1) (dCons (dVar 0) dNil))) (endD Q E), rt := Q, er := E } m [some (.int p), some (.int e)] G
  | 0, p, e, h1, h2, _ => absurd h2 (by omega)
  | n + 1, p, e, h1, h2, q => by
    by_cases hp : p % 2 = 0
    · obtain ⟨m, hm⟩ := while_halved (Q := Q) (E := E) (G := G) n (p / 2) (e + 1) (by omega) (by omega) (fun k o h3 h4 => by
        have e1 : e + 1 + k = e + (k + 1) := by omega
        rw [e1]
        refine q (k + 1) o ?_ h4
        rw [Nat.pow_succ, Nat.mul_right_comm, ← h3]; omega)
      refine ⟨m + 1, ?_⟩
      rw [whileN_eq]
      walk_at "rd"
      refine ⟨by decide, ifP (odd_mod.mpr hp) ⟨by decide, ?_⟩⟩
      have e1 : (p : Int) / 2 = ((p / 2 : Nat) : Int) := by omega
      have e2 : (e : Int) + 1 = ((e + 1 : Nat) : Int) := by omega
      rw [e1, e2]; exact hm
    · refine ⟨1, ?_⟩
      rw [whileN_eq]
      walk_at "rd"
      refine ⟨by decide, ifN (fun z => hp (odd_mod.mp z)) ⟨by decide, ?_⟩⟩
      exact q 0 p (by simp) (by omega)
theorem rd_halved : ∀ ds G Q E, sp_halved ds G Q E → r_halved (endD Q E) (startD n_halved ds) G := by
  intro ds G Q E h
  unfold sp_halved at h
  split at h
  · rename_i p
    obtain ⟨hf, q⟩ := h
    unfold r_halved n_halved
    walk_at "rd"
    unfold dWhile
    obtain ⟨j, rfl⟩ : ∃ j : Nat, p = (j : Int) := ⟨p.toNat, by omega⟩
    exact while_halved j j 0 (Nat.le_refl _) (by omega) (fun k o h3 h4 => by
      rw [Nat.zero_add]; exact q k o (by rw [Int.toNat_natCast]; exact h3) h4)
  · exact h.elim
/-! crease_by -/
theorem crR_at : ∀ (gs : List Bool) (k o : Nat) (f : Bool), gs[k]? = some f → o % 2 = 1 → crR gs (2 ^ k * o) = (f == decide (o % 4 = 1))
  | [], k, o, f, h, _ => by simp at h
  | g :: gs, 0, o, f, h, ho => by
    obtain rfl : g = f := by simpa using h
    unfold crR
    rw [Nat.pow_zero, Nat.one_mul, if_pos ho]
  | g :: gs, k + 1, o, f, h, ho => by
    unfold crR
    have e : 2 ^ (k + 1) * o = 2 * (2 ^ k * o) := by rw [Nat.pow_succ, Nat.mul_comm (2 ^ k) 2, Nat.mul_assoc]
    rw [e, if_neg (by omega), Nat.mul_div_cancel_left _ (by omega)]
    exact crR_at gs k o f (by simpa using h) ho
def r_crease_by : DS := (dSeq (dAsg (dCall sp_halved (dCons (dVar 1) dNil)) (dgTupN 2 (dgCons (dgName 3) (dgCons (dgName 4) dgNil))))
  (dSeq (dAsg (dOp gEq (dOp gIx (dVar 0) (dOp gSub (dOp gSub (dCB gLen (dCons (dVar 0) dNil)) (dC (.int 1))) (dVar 3))) (dC (.str "over"))) (dgName 2))
  (dRet (dIf (dB (dOp gEq (dVar 2) (dOp gEq (dOp gMod (dVar 4) (dC (.int 4))) (dC (.int 1))))) (dC (.str "v")) (dC (.str "m"))))))
def n_crease_by : List Str := ["folds", "place", "is_over", "exponent", "odd"]
def sp_crease_by : DSp
  | [.tup ds, .int p], G, Q, _ => ∃ fs : List Bool, ds = fs.map fD ∧ 0 < p ∧ p < ((2 ^ fs.length : Nat) : Int) ∧ Q (cD (crR fs.reverse p.toNat)) G
  | _, _, _, _ => False
theorem len_crease_by {ds : List D} {G : Store} {Q : DQ} {E : DXK} (h : sp_crease_by ds G Q E) : ds.length = 2 := by
  unfold sp_crease_by at h
  split at h
  · rfl
  · exact h.elim
theorem rd_crease_by : ∀ ds G Q E, sp_crease_by ds G Q E → r_crease_by (endD Q E) (startD n_crease_by ds) G := by
  intro ds G Q E h
  unfold sp_crease_by at h
  split at h
  · rename_i p
    obtain ⟨fs, rfl, h0, h1, q⟩ := h
    unfold r_crease_by n_crease_by
    walk_at "rd"
    unfold sp_halved
    walk_at "rd"
    refine ⟨h0, fun k o h3 h4 => ?_⟩
    have hk : k < fs.length := by
      have a : 2 ^ k * 1 ≤ 2 ^ k * o := Nat.mul_le_mul_left _ (by omega)
      exact (Nat.pow_lt_pow_iff_right (by omega : 1 < 2)).mp (by omega)
    have hr : fs[fs.length - 1 - k]? = fs.reverse[k]? := by rw [List.getElem?_reverse (by omega)]
    obtain ⟨f, hf⟩ : ∃ f, fs.reverse[k]? = some f := ⟨_, List.getElem?_eq_getElem (by rw [List.length_reverse]; omega)⟩
    refine ⟨fD f, atI_of (j := fs.length - 1 - k) (by rw [List.length_map]; omega) (by rw [List.getElem?_map, hr, hf]; rfl), ?_⟩
    unfold fD
    walk_at "rd"
    refine ⟨by decide, ?_⟩
    rw [h3, crR_at _ k o f hf h4] at q
    have e : decide ((o : Int) % 4 = 1) = decide (o % 4 = 1) := by rw [decide_eq_decide]; omega
    rw [eq_over, e, str_v, str_m]
    unfold cD at q
    cases hq : f == decide (o % 4 = 1)
    · rw [hq] at q; exact ifN Bool.false_ne_true q
    · rw [hq] at q; exact ifP rfl q
  · exact h.elim
end FD

set_option Elab.async false
set_option linter.all false
set_option maxRecDepth 100000
set_option maxHeartbeats 4000000
set_option autoImplicit false
/-! Readings of the program's defs: rows, valleys, the public defs of creases. -/
namespace FD
open PySem PySem.Spec PyProof.Rows L2
local macro_rules | `(tactic| walk_at "rd") => `(tactic| simp only [startD, wipeD, dVar, dC, dOp, dUn, dCB, dCons, dNil, dRet, dSeq, dNext, dPass, dDrop, dIfS_eq, dAsg, dgName, dgTupN, dgCons, dgNil, dPar, dB, dAnd_eq, dOr_eq, dNot, dAndV_eq, dOrV_eq, dNotV, dIf_eq, dTup, dLst, dNeg, dChain_eq, dCall, dRaise, dImm, dMut, dYes, dRev, dM1, dSl, dNone, dPart, andK_bl, ifnot,
  gAdd, gSub, gMul, gDiv, gMod, gPow, gEq, gNe, gCmpI, gIx, gSl, gLen, gInt, gAbs, gMax, gMin, gTuple, gList, gIsi, gIn, gIsN, gNotN, isNon, gCount, kbs, eqb_int, eqb_str, eqb_bl, cmp_int, cmp_str, cmp_bl,
  List.map_cons, List.map_nil, List.replicate, List.length_cons, List.length_nil, List.cons_append, List.nil_append, List.append_nil, Bool.not_true, Bool.not_false,
  List.getElem?_cons_zero, List.getElem?_cons_succ, List.set_cons_zero, List.set_cons_succ, Option.some.injEq, exists_eq_left', exists_eq_left, true_and, and_true, Nat.reduceAdd, Nat.reduceSub, tyN, reduceCtorEq, false_and, exists_false, decide_eq_true_eq, if_true, if_false, Bool.false_eq_true])
def rowB (gs : List Bool) (p n : Nat) : List Bool := (List.range n).map fun i => crR gs (p + i)
def r_row_by : DS := (dRet (dM1 gJoin (dC (.str "")) (dImm (dComp (dItW2 (dCons (dVar 1) (dCons (dOp gAdd (dVar 1) (dVar 2)) dNil))) (bN 3) [3] dYes (dCall sp_crease_by (dCons (dVar 0) (dCons (dVar 3) dNil)))))))
def n_row_by : List Str := ["folds", "place", "length", "spot"]
def sp_row_by : DSp
  | [.tup ds, .int p, .int n], G, Q, _ => ∃ fs : List Bool, ds = fs.map fD ∧ 0 < p ∧ 0 ≤ n ∧ n ≤ 1000 ∧ p + n ≤ ((2 ^ fs.length : Nat) : Int) ∧ Q (.str (wS (rowB fs.reverse p.toNat n.toNat))) G
  | _, _, _, _ => False
theorem len_row_by {ds : List D} {G : Store} {Q : DQ} {E : DXK} (h : sp_row_by ds G Q E) : ds.length = 3 := by
  unfold sp_row_by at h
  split at h
  · rfl
  · exact h.elim
theorem sum_ones (l : List Bool) : ((l.map fun b => wS [b]).map (·.length)).sum = l.length := by
  induction l with
  | nil => rfl
  | cons x l ih => rw [List.map_cons, List.map_cons, List.sum_cons, ih, wS_len, List.length_cons, List.length_cons, List.length_nil]; omega
theorem join_ok {bs : List Bool} {G : Store} {Q : DQ} (h : bs.length ≤ 1000000) (q : Q (.str (wS bs)) G) : gJoin (.str "") (.lst (bs.map cD)) G Q := by
  unfold gJoin
  refine ⟨bs.map fun b => wS [b], by rw [List.map_map]; rfl, ?_, ?_⟩
  · rw [sum_ones, str_e, wS_len, List.length_nil, Nat.mul_zero]; omega
  · rw [str_e, join_w]; exact q
theorem rd_row_by : ∀ ds G Q E, sp_row_by ds G Q E → r_row_by (endD Q E) (startD n_row_by ds) G := by
  intro ds G Q E h
  unfold sp_row_by at h
  split at h
  · rename_i p n
    obtain ⟨fs, rfl, h0, h1, h2, h3, q⟩ := h
    unfold r_row_by n_row_by
    simp only [dRet, dM1, dC, dImm]
    unfold dComp dItW2
    walk_at "rd"
    have e1 : (p + n - p).toNat = n.toNat := by omega
    rw [e1]
    refine compL_map (fun d => cD (crR fs.reverse (natD d))) _ [] (fun d hd => ⟨_, rfl, fun Q hq => ?_⟩) (by rw [← sz_ge, upto_len]; simp; omega) ?_
    · obtain ⟨i, hi, rfl⟩ := mem_upto hd
      walk_at "rd"
      exact ⟨fs, rfl, by omega, by omega, hq⟩
    · rw [List.nil_append]
      have e2 : (upto p n.toNat).map (fun d => cD (crR fs.reverse (natD d))) = (rowB fs.reverse p.toNat n.toNat).map cD := by
        unfold upto rowB
        rw [List.map_map, List.map_map]
        refine List.map_congr_left fun i _ => ?_
        show cD (crR fs.reverse (p + (i : Int)).toNat) = _
        have : (p + (i : Int)).toNat = p.toNat + i := by omega
        rw [this]; rfl
      rw [e2]
      refine join_ok ?_ q
      unfold rowB
      rw [List.length_map, List.length_range]; omega
  · exact h.elim
def l_valleys_by_1 : DS := (dFor (dItT (dRev (dVar 0))) (dgName 2) (dSeq (dAsg (dOp gAdd (dVar 3) (dIf (dB (dOp gEq (dVar 2) (dC (.str "over")))) (dOp gDiv (dOp gAdd (dVar 4) (dC (.int 3))) (dC (.int 4))) (dOp gDiv (dOp gAdd (dVar 4) (dC (.int 1))) (dC (.int 4))))) (dgName 3))
  (dAsg (dOp gDiv (dVar 4) (dC (.int 2))) (dgName 4))))
def r_valleys_by : DS := (dSeq (dPar 3 4 (dCons (dC (.int 0)) (dCons (dVar 1) dNil)))
  (dSeq l_valleys_by_1
  (dRet (dVar 3))))
def n_valleys_by : List Str := ["folds", "place", "fold", "found", "left"]
def sp_valleys_by : DSp
  | [.tup ds, .int p], G, Q, _ => ∃ fs : List Bool, ds = fs.map fD ∧ 0 ≤ p ∧ Q (.int (vlR fs.reverse p.toNat : Nat)) G
  | _, _, _, _ => False
theorem len_valleys_by {ds : List D} {G : Store} {Q : DQ} {E : DXK} (h : sp_valleys_by ds G Q E) : ds.length = 2 := by
  unfold sp_valleys_by at h
  split at h
  · rfl
  · exact h.elim
theorem loop_valleys {g : DG} {f : DS} (hg : g = dgName 2) (hf : f = dSeq (dAsg (dOp gAdd (dVar 3) (dIf (dB (dOp gEq (dVar 2) (dC (.str "over")))) (dOp gDiv (dOp gAdd (dVar 4) (dC (.int 3))) (dC (.int 4))) (dOp gDiv (dOp gAdd (dVar 4) (dC (.int 1))) (dC (.int 4))))) (dgName 3)) (dAsg (dOp gDiv (dVar 4) (dC (.int 2))) (dgName 4)))
    {B : DEnds} {x y : Option D} {G : Store} : ∀ (gs : List Bool) (n p : Nat) (t : Option D), (∀ t' p', B.nx [x, y, t', some (.int ((n + vlR gs p : Nat) : Int)), p'] G) → forL g f B (gs.map fD) [x, y, t, some (.int (n : Int)), some (.int (p : Int))] G
  | [], n, p, t, h => h t _
  | f' :: gs, n, p, t, h => by
    rw [List.map_cons]
    unfold forL
    rw [hg]
    show f _ _ _
    rw [hf]
    unfold vlR at h
    have e0 : (p : Int) / 2 = ((p / 2 : Nat) : Int) := by omega
    cases f' with
    | true =>
      rw [show fD true = .str "over" from rfl]
      walk_at "rd"
      refine ⟨by decide, by decide, ?_⟩
      have e1 : (n : Int) + ((p : Int) + 3) / 4 = ((n + (p + 3) / 4 : Nat) : Int) := by omega
      rw [e0, e1, ← hf, ← hg]
      refine loop_valleys hg hf gs _ _ (some (fD true)) ?_
      rw [Nat.add_assoc]
      exact h
    | false =>
      rw [show fD false = .str "under" from rfl]
      walk_at "rd"
      refine ifN (fun z => over_ne z.symm) ⟨by decide, by decide, ?_⟩
      have e1 : (n : Int) + ((p : Int) + 1) / 4 = ((n + (p + 1) / 4 : Nat) : Int) := by omega
      rw [e0, e1, ← hf, ← hg]
      refine loop_valleys hg hf gs _ _ (some (fD false)) ?_
      rw [Nat.add_assoc]
      exact h
theorem rd_valleys_by : ∀ ds G Q E, sp_valleys_by ds G Q E → r_valleys_by (endD Q E) (startD n_valleys_by ds) G := by
  intro ds G Q E h
  unfold sp_valleys_by at h
  split at h
  · rename_i p
    obtain ⟨fs, rfl, h0, q⟩ := h
    unfold r_valleys_by n_valleys_by
    walk_at "rd"
    obtain ⟨j, rfl⟩ : ∃ j : Nat, p = (j : Int) := ⟨p.toNat, by omega⟩
    refine Exists.intro _ ⟨rfl, ?_⟩
    walk_at "rd"
    rw [← List.map_reverse]
    refine loop_valleys rfl rfl fs.reverse 0 j none fun t p => ?_
    walk_at "rd"
    rw [Nat.zero_add]; exact q
  · exact h.elim
/-! ### what is needed -/
def lastI (i : Int) : Int := ((2 ^ i.toNat : Nat) : Int) - 1
def r_need_place : DS := (dIfS (dNot (dB (dCall sp_is_integer (dCons (dVar 1) (dCons (dC (.int 1)) (dCons (dCall sp_last_place (dCons (dVar 0) dNil)) dNil)))))) (dRaise "InvalidPlace") dNext)
def n_need_place : List Str := ["many", "place"]
def sp_need_place : DSp
  | [.int i, d], G, Q, E => (0 ≤ i ∧ i ≤ 100) ∧ okD 50 d = true ∧ (isIntD 1 (lastI i) d = false → E "InvalidPlace" G) ∧ (isIntD 1 (lastI i) d = true → Q .non G)
  | _, _, _, _ => False
theorem len_need_place {ds : List D} {G : Store} {Q : DQ} {E : DXK} (h : sp_need_place ds G Q E) : ds.length = 2 := by
  unfold sp_need_place at h
  split at h
  · rfl
  · exact h.elim
theorem rd_need_place : ∀ ds G Q E, sp_need_place ds G Q E → r_need_place (endD Q E) (startD n_need_place ds) G := by
  intro ds G Q E h
  unfold sp_need_place at h
  split at h
  · rename_i i d
    obtain ⟨h0, h1, h2, h3⟩ := h
    unfold r_need_place n_need_place
    walk_at "rd"
    unfold sp_last_place sp_is_integer
    walk_at "rd"
    refine ⟨⟨by omega, by omega⟩, okD_fit _ _ (okD_up _ 60 _ (by omega) h1), ?_⟩
    cases hq : isIntD 1 (lastI i) d with
    | true => exact ifP hq (h3 hq)
    | false => exact ifN (by rw [show isIntD 1 (((2 ^ i.toNat : Nat) : Int) - 1) d = false from hq]; exact Bool.false_ne_true) (h2 hq)
  · exact h.elim
def r_need_strip : DS := (dSeq (dDrop (dCall sp_need_recipe (dCons (dVar 0) dNil)))
  (dDrop (dCall sp_need_many (dCons (dVar 1) dNil))))
def n_need_strip : List Str := ["recipe", "many"]
def sp_need_strip : DSp
  | [r, m], G, Q, E => okD 50 r = true ∧ okD 50 m = true ∧ (isRecD r = false → E "InvalidRecipe" G) ∧ (isRecD r = true → isIntD 0 100 m = false → E "InvalidNumber" G) ∧ (isRecD r = true → isIntD 0 100 m = true → Q .non G)
  | _, _, _, _ => False
theorem len_need_strip {ds : List D} {G : Store} {Q : DQ} {E : DXK} (h : sp_need_strip ds G Q E) : ds.length = 2 := by
  unfold sp_need_strip at h
  split at h
  · rfl
  · exact h.elim
theorem rd_need_strip : ∀ ds G Q E, sp_need_strip ds G Q E → r_need_strip (endD Q E) (startD n_need_strip ds) G := by
  intro ds G Q E h
  unfold sp_need_strip at h
  split at h
  · rename_i r m
    obtain ⟨h0, h1, h2, h3, h4⟩ := h
    unfold r_need_strip n_need_strip
    walk_at "rd"
    unfold sp_need_recipe sp_need_many
    walk_at "rd"
    refine ⟨h0, ?_⟩
    cases hr : isRecD r with
    | true =>
      refine ifP rfl ⟨h1, ?_⟩
      cases hm : isIntD 0 100 m with
      | true => exact ifP rfl (h4 hr hm)
      | false => exact ifN Bool.false_ne_true (h3 hr hm)
    | false => exact ifN Bool.false_ne_true (h2 hr)
  · exact h.elim
/-- what the public defs ask ahead of all, and then -/
def stripK (r m p : D) (G : Store) (E : DXK) (K : List Bool → Nat → Prop) : Prop :=
  okD 50 r = true ∧ okD 50 m = true ∧ okD 50 p = true ∧ (isRecD r = false → E "InvalidRecipe" G) ∧ (isRecD r = true → isIntD 0 100 m = false → E "InvalidNumber" G) ∧
  (∀ i : Nat, isRecD r = true → m = .int (i : Int) → i ≤ 100 → isIntD 1 (lastI i) p = false → E "InvalidPlace" G) ∧
  (∀ (e a : List Bool) (i j : Nat), isRecD r = true → r = recD e a → 0 < a.length → m = .int (i : Int) → i ≤ 100 → p = .int (j : Int) → 0 < j → j < 2 ^ i → K (foldsB e a i) j)
theorem isInt_of {lo hi : Int} {d : D} (h : isIntD lo hi d = true) : ∃ i, d = .int i ∧ lo ≤ i ∧ i ≤ hi := by
  cases d with
  | int i =>
    have h : (decide (lo ≤ i) && decide (i ≤ hi)) = true := h
    rw [Bool.and_eq_true] at h
    exact ⟨i, rfl, of_decide_eq_true h.1, of_decide_eq_true h.2⟩
  | _ => exact absurd h Bool.false_ne_true
/-- the two calls ahead -/
theorem rd_strip {r m p : D} {G : Store} {E : DXK} {K : List Bool → Nat → Prop} {Z : Store → Prop} (h : stripK r m p G E K)
    (z : ∀ (e a : List Bool) (i j : Nat), r = recD e a → 0 < a.length → m = .int (i : Int) → i ≤ 100 → p = .int (j : Int) → 0 < j → j < 2 ^ i → K (foldsB e a i) j → Z G) :
    sp_need_strip [r, m] G (fun _ G1 => sp_need_place [m, p] G1 (fun _ G2 => Z G2) E) E := by
  obtain ⟨h0, h1, h2, h3, h4, h5, h6⟩ := h
  refine ⟨h0, h1, h3, h4, fun hr hm => ?_⟩
  obtain ⟨i, rfl, hi0, hi1⟩ := isInt_of hm
  obtain ⟨i, rfl⟩ : ∃ j : Nat, i = (j : Int) := ⟨i.toNat, by omega⟩
  refine ⟨⟨hi0, hi1⟩, h2, fun hp => h5 i hr rfl (by omega) hp, fun hp => ?_⟩
  obtain ⟨j, rfl, hj0, hj1⟩ := isInt_of hp
  obtain ⟨j, rfl⟩ : ∃ k : Nat, j = (k : Int) := ⟨j.toNat, by omega⟩
  obtain ⟨e, a, rfl, _, ha, _⟩ := isRec_iff.mp hr
  have hj : j < 2 ^ i := by
    unfold lastI at hj1
    rw [Int.toNat_natCast] at hj1; omega
  exact z e a i j rfl ha rfl (by omega) rfl (by omega) hj (h6 e a i j hr rfl ha rfl (by omega) rfl (by omega) hj)
def r_crease : DS := (dSeq (dDrop (dCall sp_need_strip (dCons (dVar 0) (dCons (dVar 1) dNil))))
  (dSeq (dDrop (dCall sp_need_place (dCons (dVar 1) (dCons (dVar 2) dNil))))
  (dRet (dCall sp_crease_by (dCons (dCall sp_folds_of (dCons (dVar 0) (dCons (dVar 1) dNil))) (dCons (dVar 2) dNil))))))
def n_crease : List Str := ["recipe", "many", "place"]
def sp_crease : DSp
  | [r, m, p], G, Q, E => stripK r m p G E fun fs j => Q (cD (crR fs.reverse j)) G
  | _, _, _, _ => False
theorem len_crease {ds : List D} {G : Store} {Q : DQ} {E : DXK} (h : sp_crease ds G Q E) : ds.length = 3 := by
  unfold sp_crease at h
  split at h
  · rfl
  · exact h.elim
theorem rd_crease : ∀ ds G Q E, sp_crease ds G Q E → r_crease (endD Q E) (startD n_crease ds) G := by
  intro ds G Q E h
  unfold sp_crease at h
  split at h
  · rename_i r m p
    unfold r_crease n_crease
    walk_at "rd"
    refine rd_strip h fun e a i j e1 h1 e2 h2 e3 h3 h4 q => ?_
    subst e1 e2 e3
    refine ⟨e, a, rfl, rfl, h1, ⟨by omega, by omega⟩, ?_⟩
    unfold foldsD
    walk_at "rd"
    rw [Int.toNat_natCast]
    refine ⟨_, rfl, by omega, by rw [foldsB_len]; omega, ?_⟩
    rw [Int.toNat_natCast]; exact q
  · exact h.elim
def r_valleys : DS := (dSeq (dDrop (dCall sp_need_strip (dCons (dVar 0) (dCons (dVar 1) dNil))))
  (dSeq (dDrop (dCall sp_need_place (dCons (dVar 1) (dCons (dVar 2) dNil))))
  (dRet (dCall sp_valleys_by (dCons (dCall sp_folds_of (dCons (dVar 0) (dCons (dVar 1) dNil))) (dCons (dVar 2) dNil))))))
def n_valleys : List Str := ["recipe", "many", "place"]
def sp_valleys : DSp
  | [r, m, p], G, Q, E => stripK r m p G E fun fs j => Q (.int (vlR fs.reverse j : Nat)) G
  | _, _, _, _ => False
theorem len_valleys {ds : List D} {G : Store} {Q : DQ} {E : DXK} (h : sp_valleys ds G Q E) : ds.length = 3 := by
  unfold sp_valleys at h
  split at h
  · rfl
  · exact h.elim
theorem rd_valleys : ∀ ds G Q E, sp_valleys ds G Q E → r_valleys (endD Q E) (startD n_valleys ds) G := by
  intro ds G Q E h
  unfold sp_valleys at h
  split at h
  · rename_i r m p
    unfold r_valleys n_valleys
    walk_at "rd"
    refine rd_strip h fun e a i j e1 h1 e2 h2 e3 h3 h4 q => ?_
    subst e1 e2 e3
    refine ⟨e, a, rfl, rfl, h1, ⟨by omega, by omega⟩, ?_⟩
    unfold foldsD
    walk_at "rd"
    rw [Int.toNat_natCast]
    refine ⟨_, rfl, by omega, ?_⟩
    rw [Int.toNat_natCast]; exact q
  · exact h.elim
def r_row : DS := (dSeq (dDrop (dCall sp_need_strip (dCons (dVar 0) (dCons (dVar 1) dNil))))
  (dSeq (dDrop (dCall sp_need_place (dCons (dVar 1) (dCons (dVar 2) dNil))))
  (dSeq (dIfS (dOr (dNot (dB (dCall sp_is_integer (dCons (dVar 3) (dCons (dC (.int 1)) (dCons (dC (.int 60)) dNil)))))) (dB (dOp gGt (dOp gSub (dOp gAdd (dVar 2) (dVar 3)) (dC (.int 1))) (dCall sp_last_place (dCons (dVar 1) dNil))))) (dRaise "InvalidNumber") dNext)
  (dRet (dCall sp_row_by (dCons (dCall sp_folds_of (dCons (dVar 0) (dCons (dVar 1) dNil))) (dCons (dVar 2) (dCons (dVar 3) dNil))))))))
def n_row : List Str := ["recipe", "many", "place", "length"]
def sp_row : DSp
  | [r, m, p, l], G, Q, E => okD 50 l = true ∧ stripK r m p G E fun fs j => (isIntD 1 60 l = false → E "InvalidNumber" G) ∧ (∀ n : Nat, l = .int (n : Int) → 1 ≤ n → n ≤ 60 → 2 ^ fs.length < j + n → E "InvalidNumber" G) ∧
      (∀ n : Nat, l = .int (n : Int) → 1 ≤ n → n ≤ 60 → j + n ≤ 2 ^ fs.length → Q (.str (wS (rowB fs.reverse j n))) G)
  | _, _, _, _ => False
theorem len_row {ds : List D} {G : Store} {Q : DQ} {E : DXK} (h : sp_row ds G Q E) : ds.length = 4 := by
  unfold sp_row at h
  split at h
  · rfl
  · exact h.elim
theorem rd_row : ∀ ds G Q E, sp_row ds G Q E → r_row (endD Q E) (startD n_row ds) G := by
  intro ds G Q E h
  unfold sp_row at h
  split at h
  · rename_i r m p l
    obtain ⟨hl, h⟩ := h
    unfold r_row n_row
    walk_at "rd"
    refine rd_strip h fun e a i j e1 h1 e2 h2 e3 h3 h4 q => ?_
    subst e1 e2 e3
    obtain ⟨q1, q2, q3⟩ := q
    refine ⟨okD_fit _ _ (okD_up _ 60 _ (by omega) hl), ?_⟩
    rw [foldsB_len] at q2 q3
    cases hn : isIntD 1 60 l with
    | false => exact ifN Bool.false_ne_true (q1 hn)
    | true =>
      obtain ⟨n, rfl, n1, n2⟩ := isInt_of hn
      obtain ⟨n, rfl⟩ : ∃ k : Nat, n = (k : Int) := ⟨n.toNat, by omega⟩
      refine ifP rfl ?_
      walk_at "rd"
      refine ⟨⟨by omega, by omega⟩, ?_⟩
      rw [Int.toNat_natCast]
      walk_at "rd"
      by_cases hb : 2 ^ i < j + n
      · exact ifP (by omega) (q2 n rfl (by omega) (by omega) hb)
      · refine ifN (by omega) ?_
        refine ⟨e, a, rfl, rfl, h1, ⟨by omega, by omega⟩, ?_⟩
        unfold foldsD
        walk_at "rd"
        rw [Int.toNat_natCast]
        refine ⟨_, rfl, by omega, by omega, by omega, by rw [foldsB_len]; omega, ?_⟩
        rw [Int.toNat_natCast, Int.toNat_natCast]
        exact q3 n rfl (by omega) (by omega) (by omega)
  · exact h.elim
end FD

set_option Elab.async false
set_option linter.all false
set_option maxRecDepth 100000
set_option maxHeartbeats 4000000
set_option autoImplicit false
/-! Readings of the laws' defs: what is drawn. -/
namespace FD
open PySem PySem.Spec PyProof.Rows L2
local macro_rules | `(tactic| walk_at "rd") => `(tactic| simp only [startD, wipeD, dVar, dC, dOp, dUn, dCB, dCons, dNil, dRet, dSeq, dNext, dPass, dDrop, dIfS_eq, dAsg, dgName, dgTupN, dgCons, dgNil, dPar, dB, dAnd_eq, dOr_eq, dNot, dAndV_eq, dOrV_eq, dNotV, dIf_eq, dTup, dLst, dNeg, dChain_eq, dCall, dRaise, dImm, dMut, dYes, dRev, dM1, dSl, dNone, dPart, andK_bl, ifnot,
  gAdd, gSub, gMul, gDiv, gMod, gPow, gEq, gNe, gCmpI, gIx, gSl, gLen, gInt, gAbs, gMax, gMin, gTuple, gList, gIsi, gIn, gIsN, gNotN, isNon, gCount, kbs, eqb_int, eqb_str, eqb_bl, cmp_int, cmp_str, cmp_bl,
  List.map_cons, List.map_nil, List.replicate, List.length_cons, List.length_nil, List.cons_append, List.nil_append, List.append_nil, Bool.not_true, Bool.not_false,
  List.getElem?_cons_zero, List.getElem?_cons_succ, List.set_cons_zero, List.set_cons_succ, Option.some.injEq, exists_eq_left', exists_eq_left, true_and, and_true, Nat.reduceAdd, Nat.reduceSub, tyN, reduceCtorEq, false_and, exists_false, decide_eq_true_eq, if_true, if_false, Bool.false_eq_true])
def shOk (G : Store) (p : Addr) : Prop := ∃ a b : Int, G p = some (.lst [.int a, .int b]) ∧ 0 ≤ a ∧ 0 ≤ b ∧ b < 2 ^ 31
def shTo (G : Store) (p : Addr) (G' : Store) : Prop := ∃ a b : Int, G' = put G p (.lst [.int a, .int b]) ∧ 0 ≤ a ∧ 0 ≤ b ∧ b < 2 ^ 31
theorem shTo.ok {G G' : Store} {p : Addr} (h : shTo G p G') : shOk G' p := by
  obtain ⟨a, b, rfl, h1, h2, h3⟩ := h
  exact ⟨a, b, put_same, h1, h2, h3⟩
theorem shTo.trans {G G1 G2 : Store} {p : Addr} (h : shTo G p G1) (h' : shTo G1 p G2) : shTo G p G2 := by
  obtain ⟨a, b, rfl, h1, h2, h3⟩ := h
  obtain ⟨a', b', rfl, h1', h2', h3'⟩ := h'
  exact ⟨a', b', put_put, h1', h2', h3'⟩
theorem shOk.refl {G : Store} {p : Addr} (h : shOk G p) : shTo G p G := by
  obtain ⟨a, b, e, h1, h2, h3⟩ := h
  exact ⟨a, b, (put_id e).symm, h1, h2, h3⟩
theorem shTo.ne {G G' : Store} {p q : Addr} (h : shTo G p G') (n : q ≠ p) : G' q = G q := by
  obtain ⟨a, b, rfl, _⟩ := h
  exact put_ne n
def r_law_sheet : DS := (dSeq (dAsg (dIf (dB (dOp gLt (dVar 1) (dCB gLen (dCons (dVar 0) dNil)))) (dCB gAbs (dCons (dCB gInt (dCons (dOp gIx (dVar 0) (dVar 1)) dNil)) dNil)) (dOp gAdd (dOp gMul (dC (.int 401)) (dVar 1)) (dC (.int 73)))) (dgName 2))
  (dRet (dLstM (dCons (dIf (dB (dOp gGe (dVar 2) (dOp gPow (dC (.int 10)) (dC (.int 18))))) (dVar 2) (dC (.int 0))) (dCons (dOp gAdd (dOp gMod (dCB gInt (dCons (dOp gAdd (dOp gAdd (dOp gMul (dVar 2) (dC (.int 59))) (dOp gMul (dC (.int 6287)) (dVar 1))) (dC (.int 31))) dNil)) (dC (.int 2147483549))) (dC (.int 1))) dNil)))))
def n_law_sheet : List Str := ["_law_script", "_law_k", "_law_cell"]
def sp_law_sheet : DSp
  | [.scr ns, .int k], G, Q, _ => (0 ≤ k ∧ k < 2 ^ 40) ∧ ∀ p G', G p = none → shTo G p G' → Q (.obj (.ref p)) G'
  | _, _, _, _ => False
theorem len_law_sheet {ds : List D} {G : Store} {Q : DQ} {E : DXK} (h : sp_law_sheet ds G Q E) : ds.length = 2 := by
  unfold sp_law_sheet at h
  split at h
  · rfl
  · exact h.elim
theorem rd_law_sheet : ∀ ds G Q E, sp_law_sheet ds G Q E → r_law_sheet (endD Q E) (startD n_law_sheet ds) G := by
  intro ds G Q E h
  unfold sp_law_sheet at h
  split at h
  · rename_i ns k
    obtain ⟨h0, q⟩ := h
    unfold r_law_sheet n_law_sheet
    walk_at "rd"
    have step : ∀ c : Int, 0 ≤ c → (0 ≤ (18 : Int) ∧ (18 : Int) ≤ 1000000 ∧ Int.natAbs 10 < 2 ^ 64) ∧ True := fun _ _ => by decide
    have fin : ∀ (c : Int) (x y : Int), 0 ≤ c → (x = c ∨ x = 0) → y = (c * 59 + 6287 * k + 31) % 2147483549 + 1 → ([D.int x, D.int y].length ≤ sizeLine ∧ ∀ p, G p = none → Q (.obj (.ref p)) (put G p (.lst [D.int x, D.int y]))) := by
      intro c x y hc hx hy
      refine ⟨by show 2 ≤ sizeLine; decide, fun p hp => q p _ hp ⟨x, y, rfl, ?_, ?_, ?_⟩⟩
      · rcases hx with rfl | rfl <;> omega
      · omega
      · omega
    unfold dLstM
    walk_at "rd"
    by_cases h1 : k < (ns.length : Int)
    · refine ifP h1 ?_
      have hk : k.toNat < ns.length := by omega
      refine ⟨ns[k.toNat], atI_of (j := k.toNat) (by omega) (List.getElem?_eq_getElem hk), ?_⟩
      generalize ns[k.toNat] = z
      have hc : 0 ≤ (if z < 0 then -z else z) := by split <;> omega
      refine ⟨by decide, ?_⟩
      by_cases h2 : (10 : Int) ^ Int.toNat 18 ≤ (if z < 0 then -z else z)
      · exact ifP h2 ⟨.inr (.inl (by decide)), .inl (by decide), by decide, fin _ _ _ hc (.inl rfl) rfl⟩
      · exact ifN h2 ⟨.inr (.inl (by decide)), .inl (by decide), by decide, fin _ _ _ hc (.inr rfl) rfl⟩
    · refine ifN h1 ⟨.inl (by decide), by decide, ?_⟩
      have hc : 0 ≤ 401 * k + 73 := by omega
      by_cases h2 : (10 : Int) ^ Int.toNat 18 ≤ 401 * k + 73
      · exact ifP h2 ⟨.inr (.inl (by decide)), .inl (by decide), by decide, fin _ _ _ hc (.inl rfl) rfl⟩
      · exact ifN h2 ⟨.inr (.inl (by decide)), .inl (by decide), by decide, fin _ _ _ hc (.inr rfl) rfl⟩
  · exact h.elim
def r_law_tear : DS := (dSeq (dIfS (dB (dOp gGt (dOp gIx (dVar 0) (dC (.int 0))) (dC (.int 0)))) (dSeq (dAsg (dOp gMod (dCB gInt (dCons (dOp gIx (dVar 0) (dC (.int 0))) dNil)) (dVar 1)) (dgName 3))
  (dSeq (dAsg (dOp gDiv (dOp gIx (dVar 0) (dC (.int 0))) (dVar 1)) (dgSubL (dVar 0) (dC (.int 0))))
  (dRet (dVar 3)))) dNext)
  (dSeq (dAsg (dOp gMod (dCB gInt (dCons (dOp gAdd (dOp gMul (dOp gIx (dVar 0) (dC (.int 1))) (dC (.int 45083))) (dC (.int 181))) dNil)) (dC (.int 2147483549))) (dgSubL (dVar 0) (dC (.int 1))))
  (dSeq (dAsg (dOp gMod (dCB gInt (dCons (dOp gMul (dOp gIx (dVar 0) (dC (.int 1))) (dOp gAdd (dOp gDiv (dOp gIx (dVar 0) (dC (.int 1))) (dC (.int 6))) (dC (.int 71)))) dNil)) (dC (.int 2147483543))) (dgName 2))
  (dRet (dOp gMod (dCB gInt (dCons (dOp gDiv (dVar 2) (dC (.int 32))) dNil)) (dVar 1))))))
def n_law_tear : List Str := ["_law_sheet_here", "_law_many", "_law_wide", "_law_part"]
def sp_law_tear : DSp
  | [.obj (.ref p), .int n], G, Q, _ => shOk G p ∧ (0 < n ∧ n < 10 ^ 40) ∧ ∀ (r : Int) (G' : Store), 0 ≤ r → r < n → shTo G p G' → Q (.int r) G'
  | _, _, _, _ => False
theorem len_law_tear {ds : List D} {G : Store} {Q : DQ} {E : DXK} (h : sp_law_tear ds G Q E) : ds.length = 2 := by
  unfold sp_law_tear at h
  split at h
  · rfl
  · exact h.elim
theorem ixN0 : ixN 2 0 = some 0 := by decide
theorem ixN1 : ixN 2 1 = some 1 := by decide
theorem rd_law_tear : ∀ ds G Q E, sp_law_tear ds G Q E → r_law_tear (endD Q E) (startD n_law_tear ds) G := by
  intro ds G Q E h
  unfold sp_law_tear at h
  split at h
  · rename_i p n
    obtain ⟨⟨a, b, hp, ha, hb, hb2⟩, ⟨hn, hn2⟩, q⟩ := h
    unfold r_law_tear n_law_tear
    unfold dgSubL
    walk_at "rd"
    refine ⟨_, _, hp, atI0, ?_⟩
    walk_at "rd"
    by_cases h1 : 0 < a
    · refine ifP h1 ⟨_, _, hp, atI0, ?_⟩
      walk_at "rd"
      refine ⟨hn, _, _, hp, atI0, ?_⟩
      walk_at "rd"
      refine ⟨⟨hn, hn2⟩, _, _, hp, ixN0, ?_⟩
      walk_at "rd"
      exact q _ _ (Int.emod_nonneg _ (by omega)) (Int.emod_lt_of_pos _ hn) ⟨a / n, b, rfl, Int.ediv_nonneg ha (by omega), hb, hb2⟩
    · refine ifN h1 ⟨_, _, hp, atI1, ?_⟩
      walk_at "rd"
      refine ⟨.inr (.inl (by decide)), by decide, _, _, hp, ixN1, ?_⟩
      walk_at "rd"
      have hb' : 0 ≤ (b * 45083 + 181) % 2147483549 ∧ (b * 45083 + 181) % 2147483549 < 2147483549 := by omega
      generalize (b * 45083 + 181) % 2147483549 = c at hb'
      refine ⟨_, _, put_same, atI1, _, _, put_same, atI1, ⟨by decide, by decide⟩, ?_⟩
      walk_at "rd"
      refine ⟨.inl (by omega), by decide, by decide, hn, ?_⟩
      exact q _ _ (Int.emod_nonneg _ (by omega)) (Int.emod_lt_of_pos _ hn) ⟨a, c, rfl, ha, by omega, by omega⟩
  · exact h.elim
def r_law_pick : DS := (dRet (dOp gIx (dVar 1) (dCall sp_law_tear (dCons (dVar 0) (dCons (dCB gLen (dCons (dVar 1) dNil)) dNil)))))
def n_law_pick : List Str := ["_law_sheet_here", "_law_things"]
def sp_law_pick : DSp
  | [.obj (.ref p), .lst ds], G, Q, _ => shOk G p ∧ (0 < ds.length ∧ ds.length ≤ 1000) ∧ ∀ (d : D) (G' : Store), d ∈ ds → shTo G p G' → Q d G'
  | _, _, _, _ => False
theorem len_law_pick {ds : List D} {G : Store} {Q : DQ} {E : DXK} (h : sp_law_pick ds G Q E) : ds.length = 2 := by
  unfold sp_law_pick at h
  split at h
  · rfl
  · exact h.elim
theorem lt1040 {n : Nat} (h : n ≤ 1000) : (n : Int) < 10 ^ 40 := by
  have e : (1000 : Int) < 10 ^ 40 := by decide
  omega
theorem rd_law_pick : ∀ ds G Q E, sp_law_pick ds G Q E → r_law_pick (endD Q E) (startD n_law_pick ds) G := by
  intro ds G Q E h
  unfold sp_law_pick at h
  split at h
  · rename_i p ds
    obtain ⟨h0, ⟨h1, h2⟩, q⟩ := h
    unfold r_law_pick n_law_pick
    walk_at "rd"
    unfold sp_law_tear
    walk_at "rd"
    refine ⟨h0, ⟨by omega, lt1040 h2⟩, fun r G' r0 r1 hs => ?_⟩
    have hr : r.toNat < ds.length := by omega
    exact ⟨ds[r.toNat], atI_of (j := r.toNat) (by omega) (List.getElem?_eq_getElem hr), q _ _ (List.getElem_mem hr) hs⟩
  · exact h.elim
def r_law_folds : DS := (dRet (dCB gTuple (dCons (dImm (dComp (dItR1 (dCons (dVar 1) dNil)) (bN 2) [2] dYes (dCall sp_law_pick (dCons (dVar 0) (dCons (dLst (dCons (dC (.str "over")) (dCons (dC (.str "under")) dNil))) dNil))))) dNil)))
def n_law_folds : List Str := ["_law_sheet_here", "_law_many", "_law_turn"]
def sp_law_folds : DSp
  | [.obj (.ref p), .int n], G, Q, _ => shOk G p ∧ (0 ≤ n ∧ n ≤ 1000) ∧ ∀ (fs : List Bool) (G' : Store), fs.length = n.toNat → shTo G p G' → Q (foldsD fs) G'
  | _, _, _, _ => False
theorem len_law_folds {ds : List D} {G : Store} {Q : DQ} {E : DXK} (h : sp_law_folds ds G Q E) : ds.length = 2 := by
  unfold sp_law_folds at h
  split at h
  · rfl
  · exact h.elim
theorem rd_law_folds : ∀ ds G Q E, sp_law_folds ds G Q E → r_law_folds (endD Q E) (startD n_law_folds ds) G := by
  intro ds G Q E h
  unfold sp_law_folds at h
  split at h
  · rename_i p n
    obtain ⟨h0, h1, q⟩ := h
    unfold r_law_folds n_law_folds
    walk_at "rd"
    unfold dComp dItR1
    walk_at "rd"
    refine ⟨⟨by omega, by omega⟩, ?_⟩
    refine compL_J (fun acc G' => (∃ fs : List Bool, acc = fs.map fD) ∧ shTo G p G') _ [] G ⟨⟨[], rfl⟩, h0.refl⟩ (fun d hd => ⟨_, rfl, fun acc G1 Q1 hj hq => ?_⟩) (by rw [← sz_ge, upto_len]; simp; omega) fun acc G1 hl hj => ?_
    · walk_at "rd"
      refine ⟨by decide, hj.2.ok, ⟨by decide, by decide⟩, fun x G2 hx hs => hq x G2 ?_⟩
      obtain ⟨⟨fs, rfl⟩, hs1⟩ := hj
      refine ⟨?_, hs1.trans hs⟩
      rcases List.mem_cons.mp hx with rfl | hx
      · exact ⟨fs ++ [true], by rw [List.map_append]; rfl⟩
      · rcases List.mem_cons.mp hx with rfl | hx
        · exact ⟨fs ++ [false], by rw [List.map_append]; rfl⟩
        · cases hx
    · obtain ⟨⟨fs, rfl⟩, hs1⟩ := hj
      refine q fs G1 ?_ hs1
      rw [List.length_map, List.length_nil, upto_len] at hl; omega
  · exact h.elim
def r_law_any_recipe : DS := (dRet (dTup (dCons (dCall sp_law_folds (dCons (dVar 0) (dCons (dCall sp_law_tear (dCons (dVar 0) (dCons (dOp gAdd (dVar 1) (dC (.int 1))) dNil))) dNil))) (dCons (dCall sp_law_folds (dCons (dVar 0) (dCons (dOp gAdd (dC (.int 1)) (dCall sp_law_tear (dCons (dVar 0) (dCons (dVar 1) dNil)))) dNil))) dNil))))
def n_law_any_recipe : List Str := ["_law_sheet_here", "_law_most"]
def sp_law_any_recipe : DSp
  | [.obj (.ref p), .int n], G, Q, _ => shOk G p ∧ (1 ≤ n ∧ n ≤ 12) ∧ ∀ (e a : List Bool) (G' : Store), e.length ≤ n.toNat → 1 ≤ a.length → a.length ≤ n.toNat → shTo G p G' → Q (recD e a) G'
  | _, _, _, _ => False
theorem len_law_any_recipe {ds : List D} {G : Store} {Q : DQ} {E : DXK} (h : sp_law_any_recipe ds G Q E) : ds.length = 2 := by
  unfold sp_law_any_recipe at h
  split at h
  · rfl
  · exact h.elim
theorem i1040 {i : Int} (h : i ≤ 1000) : i < 10 ^ 40 := by
  have e : (1000 : Int) < 10 ^ 40 := by decide
  omega
theorem rd_law_any_recipe : ∀ ds G Q E, sp_law_any_recipe ds G Q E → r_law_any_recipe (endD Q E) (startD n_law_any_recipe ds) G := by
  intro ds G Q E h
  unfold sp_law_any_recipe at h
  split at h
  · rename_i p n
    obtain ⟨h0, h1, q⟩ := h
    unfold r_law_any_recipe n_law_any_recipe
    walk_at "rd"
    refine ⟨h0, ⟨by omega, i1040 (by omega)⟩, fun r G1 r0 r1 s1 => ?_⟩
    refine ⟨s1.ok, ⟨by omega, by omega⟩, fun e G2 he s2 => ?_⟩
    refine ⟨s2.ok, ⟨by omega, i1040 (by omega)⟩, fun r' G3 r0' r1' s3 => ?_⟩
    refine ⟨s3.ok, ⟨by omega, by omega⟩, fun a G4 ha s4 => ?_⟩
    exact ⟨by show 2 ≤ sizeLine; decide, q e a G4 (by omega) (by omega) (by omega) (((s1.trans s2).trans s3).trans s4)⟩
  · exact h.elim
end FD

set_option Elab.async false
set_option linter.all false
set_option maxRecDepth 100000
set_option maxHeartbeats 4000000
set_option autoImplicit false
/-! Readings of the law k02's defs: the law's own strips. -/
namespace FD
open PySem PySem.Spec PyProof.Rows L2
local macro_rules | `(tactic| walk_at "rd") => `(tactic| simp only [startD, wipeD, dVar, dC, dOp, dUn, dCB, dCons, dNil, dRet, dSeq, dNext, dPass, dDrop, dIfS_eq, dAsg, dgName, dgTupN, dgCons, dgNil, dPar, dB, dAnd_eq, dOr_eq, dNot, dAndV_eq, dOrV_eq, dNotV, dIf_eq, dTup, dLst, dNeg, dChain_eq, dCall, dRaise, dImm, dMut, dYes, dRev, dM1, dSl, dNone, dPart, andK_bl, ifnot,
  gAdd, gSub, gMul, gDiv, gMod, gPow, gEq, gNe, gCmpI, gIx, gSl, gLen, gInt, gAbs, gMax, gMin, gTuple, gList, gIsi, gIn, gIsN, gNotN, isNon, gCount, kbs, eqb_int, eqb_str, eqb_bl, cmp_int, cmp_str, cmp_bl,
  List.map_cons, List.map_nil, List.replicate, List.length_cons, List.length_nil, List.cons_append, List.nil_append, List.append_nil, Bool.not_true, Bool.not_false,
  List.getElem?_cons_zero, List.getElem?_cons_succ, List.set_cons_zero, List.set_cons_succ, Option.some.injEq, exists_eq_left', exists_eq_left, true_and, and_true, Nat.reduceAdd, Nat.reduceSub, tyN, reduceCtorEq, false_and, exists_false, decide_eq_true_eq, if_true, if_false, Bool.false_eq_true])
def l_law_first_1 : DS := (dWhile (dB (dOp gLt (dCB gLen (dCons (dVar 2) dNil)) (dVar 1))) (dAsg (dOp gAdd (dVar 2) (dOp gIx (dVar 0) (dC (.int 1)))) (dgName 2)))
def r_law_first : DS := (dSeq (dAsg (dOp gIx (dVar 0) (dC (.int 0))) (dgName 2))
  (dSeq l_law_first_1
  (dRet (dSl (dVar 2) dNone (dPart (dVar 1))))))
def n_law_first : List Str := ["_law_recipe", "_law_many", "_law_folds_here"]
def sp_law_first : DSp
  | [.tup [.tup es, .tup as], .int n], G, Q, _ => ∃ e a : List Bool, es = e.map fD ∧ as = a.map fD ∧ (e.length ≤ 12 ∧ 0 < a.length ∧ a.length ≤ 12) ∧ (0 ≤ n ∧ n ≤ 1000) ∧ Q (foldsD (foldsB e a n.toNat)) G
  | _, _, _, _ => False
theorem len_law_first {ds : List D} {G : Store} {Q : DQ} {E : DXK} (h : sp_law_first ds G Q E) : ds.length = 2 := by
  unfold sp_law_first at h
  split at h
  · rfl
  · exact h.elim
theorem lp_law_first {B : DEnds} {G : Store} {e a : List Bool} {n : Nat} (he : e.length ≤ 12) (ha : 0 < a.length) (ha2 : a.length ≤ 12) (hn : n ≤ 1000) (q : ∀ k, n ≤ (layB e a k).length → B.nx [some (recD e a), some (.int (n : Int)), some (foldsD (layB e a k))] G) :
    l_law_first_1 B [some (recD e a), some (.int (n : Int)), some (foldsD e)] G := by
  unfold l_law_first_1 dWhile
  suffices h : ∀ (j k : Nat), n ≤ (layB e a k).length + j → ∃ m, whileN (dB (dOp gLt (dCB gLen (dCons (dVar 2) dNil)) (dVar 1))) (dAsg (dOp gAdd (dVar 2) (dOp gIx (dVar 0) (dC (.int 1)))) (dgName 2)) B m [some (recD e a), some (.int (n : Int)), some (foldsD (layB e a k))] G by
    exact h n 0 (by omega)
  intro j
  induction j with
  | zero =>
    intro k hk
    refine ⟨1, ?_⟩
    rw [whileN_eq]
    unfold recD foldsD
    walk_at "rd"
    rw [List.length_map]
    exact ifN (by omega) (q k (by omega))
  | succ j ih =>
    intro k hk
    by_cases hl : (layB e a k).length < n
    · obtain ⟨m, hm⟩ := ih (k + 1) (by rw [layB_len] at hk ⊢; rw [Nat.succ_mul]; omega)
      refine ⟨m + 1, ?_⟩
      rw [whileN_eq]
      unfold recD foldsD
      walk_at "rd"
      rw [List.length_map]
      refine ifP (by omega) ⟨_, atI1, ?_⟩
      walk_at "rd"
      refine ⟨by rw [← sz_ge, List.length_map, List.length_map]; omega, ?_⟩
      rw [← List.map_append]
      exact hm
    · refine ⟨1, ?_⟩
      rw [whileN_eq]
      unfold recD foldsD
      walk_at "rd"
      rw [List.length_map]
      exact ifN (by omega) (q k (by omega))
theorem cut_to {ds : List D} {n : Nat} : cutD ds none (some (n : Int)) = ds.take n := by
  unfold cutD
  rw [HT.sIx_none, HT.sIx_nat, List.drop_zero, Nat.sub_zero]
  by_cases h : n ≤ ds.length
  · rw [Nat.min_eq_left h]
  · rw [Nat.min_eq_right (by omega), List.take_of_length_le (by omega), List.take_of_length_le (by omega)]
theorem rd_law_first : ∀ ds G Q E, sp_law_first ds G Q E → r_law_first (endD Q E) (startD n_law_first ds) G := by
  intro ds G Q E h
  unfold sp_law_first at h
  split at h
  · rename_i n
    obtain ⟨e, a, rfl, rfl, ⟨h1, h2, h3⟩, h4, q⟩ := h
    obtain ⟨j, rfl⟩ : ∃ j : Nat, n = (j : Int) := ⟨n.toNat, by omega⟩
    unfold r_law_first n_law_first
    walk_at "rd"
    refine ⟨_, atI0, ?_⟩
    refine lp_law_first h1 h2 h3 (by omega) fun k hk => ?_
    unfold foldsD
    walk_at "rd"
    rw [cut_to, ← List.map_take, layB_take e a h2 k j hk]
    rw [Int.toNat_natCast] at q
    exact q
  · exact h.elim
def r_law_other : DS := (dRet (dM1 gJoin (dC (.str "")) (dImm (dComp (dItS (dVar 0)) (bN 1) [1] dYes (dIf (dB (dOp gEq (dVar 1) (dC (.str "v")))) (dC (.str "m")) (dC (.str "v")))))))
def n_law_other : List Str := ["_law_strand", "_law_sign"]
def sp_law_other : DSp
  | [.str z], G, Q, _ => ∃ l : List Bool, z = wS l ∧ l.length ≤ 100000 ∧ Q (.str (wS (l.map not))) G
  | _, _, _, _ => False
theorem len_law_other {ds : List D} {G : Store} {Q : DQ} {E : DXK} (h : sp_law_other ds G Q E) : ds.length = 1 := by
  unfold sp_law_other at h
  split at h
  · rfl
  · exact h.elim
def bitD : D → Bool
  | .str z => decide (z = wS [true])
  | _ => false
theorem bitD_w (b : Bool) : bitD (.str (wS [b])) = b := by cases b <;> decide +kernel
theorem rd_law_other : ∀ ds G Q E, sp_law_other ds G Q E → r_law_other (endD Q E) (startD n_law_other ds) G := by
  intro ds G Q E h
  unfold sp_law_other at h
  split at h
  · obtain ⟨l, rfl, h1, q⟩ := h
    unfold r_law_other n_law_other
    simp only [dRet, dM1, dC, dImm]
    unfold dComp dItS
    walk_at "rd"
    rw [signs_w]
    refine compL_map (fun d => cD (!bitD d)) _ [] (fun d hd => ⟨_, rfl, fun Q hq => ?_⟩) (by rw [← sz_ge, List.length_map]; simp; omega) ?_
    · obtain ⟨b, _, rfl⟩ := List.mem_map.mp hd
      walk_at "rd"
      rw [bitD_w] at hq
      rw [str_v, str_m]
      cases b
      · exact ifN (by rw [w1_eq]; exact Bool.false_ne_true) hq
      · exact ifP rfl hq
    · rw [List.nil_append, List.map_map]
      have e : l.map ((fun d => cD (!bitD d)) ∘ fun b => D.str (wS [b])) = (l.map not).map cD := by
        rw [List.map_map]
        refine List.map_congr_left fun b _ => ?_
        show cD (!bitD (.str (wS [b]))) = _
        rw [bitD_w]; rfl
      rw [e]
      exact join_ok (by rw [List.length_map]; omega) q
  · exact h.elim
def l_law_strip_1 : DS := (dFor (dItT (dRev (dVar 0))) (dgName 2) (dAsg (dOp gAdd (dOp gAdd (dVar 1) (dIf (dB (dOp gEq (dVar 2) (dC (.str "over")))) (dC (.str "v")) (dC (.str "m")))) (dCall sp_law_other (dCons (dRev (dVar 1)) dNil))) (dgName 1)))
def r_law_strip : DS := (dSeq (dAsg (dC (.str "")) (dgName 1))
  (dSeq l_law_strip_1
  (dRet (dVar 1))))
def n_law_strip : List Str := ["_law_folds_here", "_law_strand", "_law_fold"]
def sp_law_strip : DSp
  | [.tup ds], G, Q, _ => ∃ fs : List Bool, ds = fs.map fD ∧ fs.length ≤ 13 ∧ Q (.str (wS (allC fs.reverse))) G
  | _, _, _, _ => False
theorem len_law_strip {ds : List D} {G : Store} {Q : DQ} {E : DXK} (h : sp_law_strip ds G Q E) : ds.length = 1 := by
  unfold sp_law_strip at h
  split at h
  · rfl
  · exact h.elim
theorem le_sz {n : Nat} (h : n ≤ 16777216) : n ≤ sizeLine := h
theorem lp_law_strip {B : DEnds} {G : Store} {x : Option D} : ∀ (gs hs : List Bool) (t : Option D), gs.length + hs.length ≤ 13 → (∀ t', B.nx [x, some (.str (wS (allC (hs ++ gs)))), t'] G) →
    forL (dgName 2) (dAsg (dOp gAdd (dOp gAdd (dVar 1) (dIf (dB (dOp gEq (dVar 2) (dC (.str "over")))) (dC (.str "v")) (dC (.str "m")))) (dCall sp_law_other (dCons (dRev (dVar 1)) dNil))) (dgName 1)) B (gs.map fD) [x, some (.str (wS (allC hs))), t] G
  | [], hs, t, _, q => by
    rw [List.append_nil] at q
    exact q t
  | g :: gs, hs, t, hl, q => by
    rw [List.length_cons] at hl
    have hp : 2 ^ hs.length ≤ 2 ^ 13 := Nat.pow_le_pow_right (by omega) (by omega)
    have hlen := allC_len hs
    rw [List.map_cons]
    unfold forL
    have next : ∀ t', forL (dgName 2) (dAsg (dOp gAdd (dOp gAdd (dVar 1) (dIf (dB (dOp gEq (dVar 2) (dC (.str "over")))) (dC (.str "v")) (dC (.str "m")))) (dCall sp_law_other (dCons (dRev (dVar 1)) dNil))) (dgName 1)) B (gs.map fD) [x, some (.str (wS (allC hs) ++ wS [g] ++ wS ((allC hs).reverse.map not))), t'] G := fun t' => by
      rw [wS_app, wS_app, List.append_assoc]
      have := allC_snoc hs g
      have e : allC hs ++ ([g] ++ (allC hs).reverse.map not) = allC (hs ++ [g]) := this.symm
      rw [e]
      refine lp_law_strip gs (hs ++ [g]) t' (by simp; omega) ?_
      rw [List.append_assoc]
      exact q
    have fit1 : (wS (allC hs)).length + (wS [g]).length ≤ sizeLine := by rw [wS_len, wS_len]; refine le_sz ?_; simp; omega
    have fit2 : (wS (allC hs) ++ wS [g]).length + (wS ((allC hs).reverse.map not)).length ≤ sizeLine := by
      rw [wS_app, wS_len, wS_len]; refine le_sz ?_; simp; omega
    have fit3 : (wS (allC hs)).length ≤ sizeLine := by rw [wS_len]; refine le_sz ?_; omega
    cases g with
    | true =>
      rw [show fD true = .str "over" from rfl]
      walk_at "rd"
      rw [str_v]
      refine ⟨fit1, fit3, allC hs |>.reverse, rev_w _, by rw [List.length_reverse]; omega, fit2, ?_⟩
      exact next _
    | false =>
      rw [show fD false = .str "under" from rfl]
      walk_at "rd"
      refine ifN (fun z => over_ne z.symm) ?_
      rw [str_m]
      refine ⟨fit1, fit3, allC hs |>.reverse, rev_w _, by rw [List.length_reverse]; omega, fit2, ?_⟩
      exact next _
theorem rd_law_strip : ∀ ds G Q E, sp_law_strip ds G Q E → r_law_strip (endD Q E) (startD n_law_strip ds) G := by
  intro ds G Q E h
  unfold sp_law_strip at h
  split at h
  · obtain ⟨fs, rfl, h1, q⟩ := h
    unfold r_law_strip n_law_strip
    walk_at "rd"
    rw [str_e]
    refine Exists.intro _ ⟨rfl, ?_⟩
    walk_at "rd"
    rw [← List.map_reverse]
    refine lp_law_strip fs.reverse [] none (by simp; omega) fun t => ?_
    walk_at "rd"
    exact q
  · exact h.elim
def l_law_doubled_1 : DS := (dFor (dItR1 (dCons (dVar 0) dNil)) (dgName 2) (dAsg (dOp gMul (dVar 1) (dC (.int 2))) (dgName 1)))
def r_law_doubled : DS := (dSeq (dAsg (dC (.int 1)) (dgName 1))
  (dSeq l_law_doubled_1
  (dRet (dVar 1))))
def n_law_doubled : List Str := ["_law_many", "_law_found", "_law_turn"]
def sp_law_doubled : DSp := sp_power
theorem len_law_doubled {ds : List D} {G : Store} {Q : DQ} {E : DXK} (h : sp_law_doubled ds G Q E) : ds.length = 1 := len_power h
theorem rd_law_doubled : ∀ ds G Q E, sp_law_doubled ds G Q E → r_law_doubled (endD Q E) (startD n_law_doubled ds) G := fun ds G Q E h => by
  have := rd_power ds G Q E h
  unfold r_law_doubled l_law_doubled_1 n_law_doubled
  unfold r_power n_power at this
  exact this
end FD

set_option Elab.async false
set_option linter.all false
set_option maxRecDepth 100000
set_option maxHeartbeats 4000000
set_option autoImplicit false
/-! Readings of the law k02's defs: the law's own creases, what is a recipe. -/
namespace FD
open PySem PySem.Spec PyProof.Rows L2
local macro_rules | `(tactic| walk_at "rd") => `(tactic| simp only [startD, wipeD, dVar, dC, dOp, dUn, dCB, dCons, dNil, dRet, dSeq, dNext, dPass, dDrop, dIfS_eq, dAsg, dgName, dgTupN, dgCons, dgNil, dPar, dB, dAnd_eq, dOr_eq, dNot, dAndV_eq, dOrV_eq, dNotV, dIf_eq, dTup, dLst, dNeg, dChain_eq, dCall, dRaise, dImm, dMut, dYes, dRev, dM1, dSl, dNone, dPart, andK_bl, ifnot,
  gAdd, gSub, gMul, gDiv, gMod, gPow, gEq, gNe, gCmpI, gIx, gSl, gLen, gInt, gAbs, gMax, gMin, gTuple, gList, gIsi, gIn, gIsN, gNotN, isNon, gCount, kbs, eqb_int, eqb_str, eqb_bl, cmp_int, cmp_str, cmp_bl,
  List.map_cons, List.map_nil, List.replicate, List.length_cons, List.length_nil, List.cons_append, List.nil_append, List.append_nil, Bool.not_true, Bool.not_false,
  List.getElem?_cons_zero, List.getElem?_cons_succ, List.set_cons_zero, List.set_cons_succ, Option.some.injEq, exists_eq_left', exists_eq_left, true_and, and_true, Nat.reduceAdd, Nat.reduceSub, tyN, reduceCtorEq, false_and, exists_false, decide_eq_true_eq, if_true, if_false, Bool.false_eq_true])
def l_law_crease_1 : DS := (dFor (dItT (dVar 0)) (dgName 2) (dSeq (dIfS (dB (dOp gEq (dVar 1) (dVar 4))) (dRet (dIf (dB (dOp gNe (dOp gEq (dVar 2) (dC (.str "over"))) (dVar 3))) (dC (.str "v")) (dC (.str "m")))) dNext)
  (dSeq (dIfS (dB (dOp gGt (dVar 1) (dVar 4))) (dPar 1 3 (dCons (dOp gSub (dOp gMul (dC (.int 2)) (dVar 4)) (dVar 1)) (dCons (dNotV (dVar 3)) dNil))) dNext)
  (dAsg (dOp gDiv (dVar 4) (dC (.int 2))) (dgName 4)))))
def r_law_crease : DS := (dSeq (dPar 3 4 (dCons (dC (.bl false)) (dCons (dOp gDiv (dCall sp_law_doubled (dCons (dCB gLen (dCons (dVar 0) dNil)) dNil)) (dC (.int 2))) dNil)))
  (dSeq l_law_crease_1
  (dRet (dC (.str "")))))
def n_law_crease : List Str := ["_law_folds_here", "_law_place", "_law_fold", "_law_turned", "_law_middle"]
def sp_law_crease : DSp
  | [.tup ds, .int p], G, Q, _ => ∃ fs : List Bool, ds = fs.map fD ∧ fs.length ≤ 128 ∧ 0 < p ∧ p < ((2 ^ fs.length : Nat) : Int) ∧ Q (cD (crR fs.reverse p.toNat)) G
  | _, _, _, _ => False
theorem len_law_crease {ds : List D} {G : Store} {Q : DQ} {E : DXK} (h : sp_law_crease ds G Q E) : ds.length = 2 := by
  unfold sp_law_crease at h
  split at h
  · rfl
  · exact h.elim
theorem xor_bl {a b : Bool} : (!(a == b)) = (a != b) := rfl
theorem lp_law_crease {B : DEnds} {G : Store} {x : Option D} : ∀ (fs : List Bool) (p : Nat) (y : Option D) (t : Bool), 0 < p → p < 2 ^ fs.length → B.rt (cD (crR fs.reverse p != t)) G →
    forL (dgName 2) (dSeq (dIfS (dB (dOp gEq (dVar 1) (dVar 4))) (dRet (dIf (dB (dOp gNe (dOp gEq (dVar 2) (dC (.str "over"))) (dVar 3))) (dC (.str "v")) (dC (.str "m")))) dNext)
  (dSeq (dIfS (dB (dOp gGt (dVar 1) (dVar 4))) (dPar 1 3 (dCons (dOp gSub (dOp gMul (dC (.int 2)) (dVar 4)) (dVar 1)) (dCons (dNotV (dVar 3)) dNil))) dNext)
  (dAsg (dOp gDiv (dVar 4) (dC (.int 2))) (dgName 4)))) B (fs.map fD) [x, some (.int (p : Int)), y, some (.bl t), some (.int ((2 ^ fs.length / 2 : Nat) : Int))] G
  | [], p, y, t, h1, h2, _ => by simp at h2; omega
  | f :: fs, p, y, t, h1, h2, q => by
    have hc := crL_eq (f :: fs) p t h1 h2
    rw [List.length_cons, Nat.pow_succ] at h2
    have e1 : 2 ^ (f :: fs).length / 2 = 2 ^ fs.length := by rw [List.length_cons, Nat.pow_succ]; omega
    have hmid : ∀ k : Nat, ((2 ^ k : Nat) : Int) / 2 = ((2 ^ k / 2 : Nat) : Int) := fun k => by omega
    rw [List.map_cons, e1]
    unfold forL
    unfold crL at hc
    generalize hM : 2 ^ fs.length = M at *
    rw [show fD f = .str (fS f) from rfl]
    walk_at "rd"
    by_cases h : p = M
    · refine ifP (by omega) ?_
      rw [if_pos h] at hc
      rw [eq_over, str_v, str_m]
      rw [← Option.some.inj hc] at q
      unfold cD at q
      cases hx : f == t
      · have : (f != t) = true := by unfold bne; rw [hx]; rfl
        rw [this] at q; exact ifN Bool.false_ne_true q
      · have : (f != t) = false := by unfold bne; rw [hx]; rfl
        rw [this] at q; exact ifP rfl q
    · refine ifN (by omega) ?_
      rw [if_neg h] at hc
      by_cases hq : M < p
      · rw [if_pos hq, crL_eq fs _ _ (by omega) (by omega)] at hc
        refine ifP (by omega) ⟨.inl ⟨by decide, by decide⟩, by decide, ?_⟩
        have e2 : 2 * (M : Int) - (p : Int) = ((2 * M - p : Nat) : Int) := by omega
        have e3 : (M : Int) / 2 = ((2 ^ fs.length / 2 : Nat) : Int) := by omega
        rw [e2, e3]
        refine lp_law_crease fs (2 * M - p) _ (!t) (by omega) (by omega) ?_
        rw [Option.some.inj hc]; exact q
      · rw [if_neg hq, crL_eq fs _ _ (by omega) (by omega)] at hc
        refine ifN (by omega) ⟨by decide, ?_⟩
        have e3 : (M : Int) / 2 = ((2 ^ fs.length / 2 : Nat) : Int) := by omega
        rw [e3]
        refine lp_law_crease fs p _ t (by omega) (by omega) ?_
        rw [Option.some.inj hc]; exact q
theorem rd_law_crease : ∀ ds G Q E, sp_law_crease ds G Q E → r_law_crease (endD Q E) (startD n_law_crease ds) G := by
  intro ds G Q E h
  unfold sp_law_crease at h
  split at h
  · rename_i p
    obtain ⟨fs, rfl, h1, h2, h3, q⟩ := h
    obtain ⟨j, rfl⟩ : ∃ j : Nat, p = (j : Int) := ⟨p.toNat, by omega⟩
    unfold r_law_crease n_law_crease
    walk_at "rd"
    unfold sp_law_doubled sp_power
    walk_at "rd"
    rw [List.length_map, Int.toNat_natCast]
    refine ⟨⟨by omega, by omega⟩, by decide, ?_⟩
    refine Exists.intro _ ⟨rfl, ?_⟩
    have e : ((2 ^ fs.length : Nat) : Int) / 2 = ((2 ^ fs.length / 2 : Nat) : Int) := by omega
    rw [e]
    refine lp_law_crease fs j none false (by omega) (by omega) ?_
    rw [Int.toNat_natCast] at q
    have e2 : (crR fs.reverse j != false) = crR fs.reverse j := by cases crR fs.reverse j <;> rfl
    rw [e2]; exact q
  · exact h.elim
def r_law_are_folds : DS := (dSeq (dIfS (dOr (dNot (dB (dCB gIsi (dCons (dVar 0) (dCons (dC (.obj (.ty "tuple"))) dNil))))) (dNot (dB (dChain gLe gLe (dVar 1) (dCB gLen (dCons (dVar 0) dNil)) (dVar 2))))) (dRet (dC (.bl false))) dNext)
  (dRet (dOp gEq (dImm (dComp (dItT (dVar 0)) (bN 3) [3] (dOr (dNot (dB (dCB gIsi (dCons (dVar 3) (dCons (dC (.obj (.ty "str"))) dNil))))) (dB (dOp (gIn true) (dVar 3) (dLst (dCons (dC (.str "over")) (dCons (dC (.str "under")) dNil)))))) (dVar 3))) (dLst dNil))))
def n_law_are_folds : List Str := ["_law_value", "_law_low", "_law_high", "_law_one"]
def sp_law_are_folds : DSp
  | [d, .int lo, .int hi], G, Q, _ => okD 50 d = true ∧ (0 ≤ lo ∧ 0 ≤ hi) ∧ Q (.bl (areFoldsD d && decide (lo ≤ (lenD d : Int)) && decide ((lenD d : Int) ≤ hi))) G
  | _, _, _, _ => False
theorem len_law_are_folds {ds : List D} {G : Store} {Q : DQ} {E : DXK} (h : sp_law_are_folds ds G Q E) : ds.length = 3 := by
  unfold sp_law_are_folds at h
  split at h
  · rfl
  · exact h.elim
theorem eqb_nil {ds : List D} : eqb (.lst ds) (.lst []) = ds.isEmpty := by cases ds <;> rfl
theorem fit_lst {n : Nat} {ds : List D} : fit (n + 1) (.lst ds) = ds.all (fit n) := rfl
theorem filter_empty (ds : List D) : (ds.filter fun d => !isFoldD d).isEmpty = ds.all isFoldD := by
  induction ds with
  | nil => rfl
  | cons d ds ih =>
    rw [List.filter_cons, List.all_cons]
    cases isFoldD d
    · rfl
    · exact ih
theorem rd_law_are_folds : ∀ ds G Q E, sp_law_are_folds ds G Q E → r_law_are_folds (endD Q E) (startD n_law_are_folds ds) G := by
  intro ds G Q E h
  unfold sp_law_are_folds at h
  split at h
  · rename_i d lo hi
    obtain ⟨hf, hlo, q⟩ := h
    unfold r_law_are_folds n_law_are_folds
    cases d with
    | tup ds =>
      unfold okD at hf
      rw [Bool.and_eq_true, List.all_eq_true] at hf
      have hl := of_decide_eq_true hf.1
      have q : Q (.bl (ds.all isFoldD && decide (lo ≤ (ds.length : Int)) && decide ((ds.length : Int) ≤ hi))) G := q
      unfold dComp dItT
      walk_at "rd"
      by_cases h1 : lo ≤ (ds.length : Int)
      · refine ifP h1 ?_
        by_cases h2 : (ds.length : Int) ≤ hi
        · refine ifP h2 ?_
          rw [decide_eq_true h1, decide_eq_true h2, Bool.and_true, Bool.and_true] at q
          refine compL_filter (fun d => !isFoldD d) id ds [] (fun d hd => ⟨_, rfl, fun Q1 hq => ?_, fun _ Q1 hq => ?_⟩) (by rw [← sz_ge]; simp; omega) ?_
          · have hfd := okD_fit _ _ (hf.2 d hd)
            walk_at "rd"
            cases d with
            | str z =>
              walk_at "rd"
              refine ⟨by decide, ⟨rfl, rfl⟩, ?_⟩
              rw [inD2]; exact hq
            | int i => walk_at "rd"; exact hq
            | bl b => walk_at "rd"; exact hq
            | non => walk_at "rd"; exact hq
            | tup _ => walk_at "rd"; exact hq
            | lst _ => walk_at "rd"; exact hq
            | scr _ => exact absurd hfd Bool.false_ne_true
            | obj _ => exact absurd hfd Bool.false_ne_true
          · walk_at "rd"; exact hq
          · rw [List.nil_append, List.map_id]
            refine ⟨by show 0 ≤ sizeLine; decide, ?_, ?_⟩
            · show (fit 60 (.lst _) && true) = true
              rw [Bool.and_true, fit_lst, List.all_eq_true]
              intro d hd
              exact okD_fit _ _ (okD_up 49 59 d (by omega) (hf.2 d (List.mem_filter.mp hd).1))
            · rw [eqb_nil, filter_empty]; exact q
        · refine ifN h2 ?_
          rw [decide_eq_false h2, Bool.and_false] at q; exact q
      · refine ifN h1 ?_
        rw [decide_eq_false h1, Bool.and_false] at q; exact q
    | str z => walk_at "rd"; exact q
    | int i => walk_at "rd"; exact q
    | bl b => walk_at "rd"; exact q
    | non => walk_at "rd"; exact q
    | lst _ => walk_at "rd"; exact q
    | scr _ => exact absurd hf Bool.false_ne_true
    | obj _ => exact absurd hf Bool.false_ne_true
  · exact h.elim
def r_law_good_recipe : DS := (dSeq (dIfS (dOr (dNot (dB (dCB gIsi (dCons (dVar 0) (dCons (dC (.obj (.ty "tuple"))) dNil))))) (dB (dOp gNe (dCB gLen (dCons (dVar 0) dNil)) (dC (.int 2))))) (dRet (dC (.bl false))) dNext)
  (dRet (dAndV (dCall sp_law_are_folds (dCons (dOp gIx (dVar 0) (dC (.int 0))) (dCons (dC (.int 0)) (dCons (dC (.int 12)) dNil)))) (dCall sp_law_are_folds (dCons (dOp gIx (dVar 0) (dC (.int 1))) (dCons (dC (.int 1)) (dCons (dC (.int 12)) dNil)))))))
def n_law_good_recipe : List Str := ["_law_value"]
def sp_law_good_recipe : DSp := sp_is_recipe
theorem len_law_good_recipe {ds : List D} {G : Store} {Q : DQ} {E : DXK} (h : sp_law_good_recipe ds G Q E) : ds.length = 1 := len_is_recipe h
theorem rd_law_good_recipe : ∀ ds G Q E, sp_law_good_recipe ds G Q E → r_law_good_recipe (endD Q E) (startD n_law_good_recipe ds) G := by
  intro ds G Q E h
  unfold sp_law_good_recipe sp_is_recipe at h
  split at h
  · rename_i d
    obtain ⟨hf, q⟩ := h
    unfold r_law_good_recipe n_law_good_recipe
    walk_at "rd"
    cases d with
    | tup ds =>
      walk_at "rd"
      match ds, hf, q with
      | [], hf, q => walk_at "rd"; exact ifN (by decide) q
      | [_], hf, q => walk_at "rd"; exact ifN (by decide) q
      | _ :: _ :: _ :: _, hf, q =>
        refine ifN (by simp; omega) ?_
        exact q
      | [a, b], hf, q =>
        refine ifP (by rfl) ?_
        simp only [atI0, atI1, exists_eq_left', Option.some.injEq]
        unfold okD at hf
        simp only [List.all_cons, List.all_nil, Bool.and_eq_true] at hf
        have ha := okD_up 49 50 a (by omega) hf.2.1
        have hb := okD_up 49 50 b (by omega) hf.2.2.1
        rw [isRecD_pair] at q
        refine ⟨ha, ⟨by decide, by decide⟩, ?_⟩
        walk_at "rd"
        have z : decide ((0 : Int) ≤ (lenD a : Int)) = true := decide_eq_true (by omega)
        have e1 : decide ((lenD a : Int) ≤ 12) = decide (lenD a ≤ 12) := by rw [decide_eq_decide]; omega
        have e2 : decide ((1 : Int) ≤ (lenD b : Int)) = decide (1 ≤ lenD b) := by rw [decide_eq_decide]; omega
        have e3 : decide ((lenD b : Int) ≤ 12) = decide (lenD b ≤ 12) := by rw [decide_eq_decide]; omega
        rw [z, e1, Bool.and_true]
        cases hx : (areFoldsD a && decide (lenD a ≤ 12)) with
        | false =>
          refine ifN Bool.false_ne_true ?_
          have : (areFoldsD a && areFoldsD b && decide (lenD a ≤ 12) && decide (1 ≤ lenD b) && decide (lenD b ≤ 12)) = false := by
            rw [Bool.and_eq_false_iff] at hx
            rcases hx with k | k <;> rw [k] <;> simp
          rw [this] at q; exact q
        | true =>
          refine ifP rfl ⟨hb, ⟨by decide, by decide⟩, ?_⟩
          rw [Bool.and_eq_true] at hx
          rw [e2, e3]
          rw [hx.1, hx.2, Bool.true_and, Bool.and_true] at q
          exact q
    | str z => walk_at "rd"; exact q
    | int i => walk_at "rd"; exact q
    | bl b => walk_at "rd"; exact q
    | non => walk_at "rd"; exact q
    | lst _ => walk_at "rd"; exact q
    | scr _ => exact absurd hf Bool.false_ne_true
    | obj _ => exact absurd hf Bool.false_ne_true
  · exact h.elim
end FD

set_option Elab.async false
set_option linter.all false
set_option maxRecDepth 100000
set_option maxHeartbeats 4000000
set_option autoImplicit false
/-! Readings of the laws' defs: odd values. -/
namespace FD
open PySem PySem.Spec PyProof.Rows L2
local macro_rules | `(tactic| walk_at "rd") => `(tactic| simp only [startD, wipeD, dVar, dC, dOp, dUn, dCB, dCons, dNil, dRet, dSeq, dNext, dPass, dDrop, dIfS_eq, dAsg, dgName, dgTupN, dgCons, dgNil, dPar, dB, dAnd_eq, dOr_eq, dNot, dAndV_eq, dOrV_eq, dNotV, dIf_eq, dTup, dLst, dNeg, dChain_eq, dCall, dRaise, dImm, dMut, dYes, dRev, dM1, dSl, dNone, dPart, andK_bl, ifnot,
  gAdd, gSub, gMul, gDiv, gMod, gPow, gEq, gNe, gCmpI, gIx, gSl, gLen, gInt, gAbs, gMax, gMin, gTuple, gList, gIsi, gIn, gIsN, gNotN, isNon, gCount, kbs, eqb_int, eqb_str, eqb_bl, cmp_int, cmp_str, cmp_bl,
  List.map_cons, List.map_nil, List.replicate, List.length_cons, List.length_nil, List.cons_append, List.nil_append, List.append_nil, Bool.not_true, Bool.not_false,
  List.getElem?_cons_zero, List.getElem?_cons_succ, List.set_cons_zero, List.set_cons_succ, Option.some.injEq, exists_eq_left', exists_eq_left, true_and, and_true, Nat.reduceAdd, Nat.reduceSub, tyN, reduceCtorEq, false_and, exists_false, decide_eq_true_eq, if_true, if_false, Bool.false_eq_true])
def sp_law_any_value : Nat → DSp
  | 0, _, _, _, _ => False
  | n + 1, [.obj (.ref p), .int j], G, Q, _ => shOk G p ∧ (0 ≤ j ∧ j ≤ (n : Int)) ∧ ∀ (d : D) (G' : Store), okD (n + 4) d = true → shTo G p G' → Q d G'
  | _, _, _, _, _ => False
def r_law_any_value (n : Nat) : DS := (dSeq (dAsg (dLst (dCons (dC .non) (dCons (dC (.bl true)) (dCons (dC (.bl false)) (dCons (dC (.int 0)) (dCons (dC (.int 1)) (dCons (dC (.int 2)) (dCons (dC (.int 3)) (dCons (dNeg (dC (.int 1))) (dCons (dOp gPow (dC (.int 10)) (dC (.int 30))) (dCons (dOp gAdd (dOp gPow (dC (.int 10)) (dC (.int 30))) (dC (.int 1))) (dCons (dC (.str "")) (dCons (dC (.str "over")) (dCons (dC (.str "under")) (dCons (dC (.str "v")) (dCons (dC (.str "m")) (dCons (dC (.str "o:u")) (dCons (dTup dNil) (dCons (dLst dNil) dNil))))))))))))))))))) (dgName 2))
  (dSeq (dAsg (dOp gAdd (dVar 2) (dLst (dCons (dTup (dCons (dC (.str "over")) dNil)) (dCons (dTup (dCons (dC (.str "over")) (dCons (dC (.str "under")) dNil))) (dCons (dTup (dCons (dTup dNil) (dCons (dTup (dCons (dC (.str "over")) dNil)) dNil))) (dCons (dTup (dCons (dC (.int 1)) (dCons (dC (.str "v")) dNil))) (dCons (dTup (dCons (dTup (dCons (dC (.int 1)) (dCons (dC (.str "v")) dNil))) (dCons (dTup (dCons (dC (.int 2)) (dCons (dC (.str "m")) dNil))) dNil))) (dCons (dTup (dCons (dC (.int 0)) (dCons (dC (.int 0)) dNil))) (dCons (dC (.str "vm")) (dCons (dLst (dCons (dC (.int 1)) (dCons (dC (.int 2)) dNil))) dNil)))))))))) (dgName 2))
  (dSeq (dIfS (dOr (dB (dOp gEq (dVar 1) (dC (.int 0)))) (dB (dOp gLt (dCall sp_law_tear (dCons (dVar 0) (dCons (dC (.int 9)) dNil))) (dC (.int 6))))) (dRet (dCall sp_law_pick (dCons (dVar 0) (dCons (dVar 2) dNil)))) dNext)
  (dSeq (dAsg (dImm (dComp (dItR1 (dCons (dCall sp_law_tear (dCons (dVar 0) (dCons (dC (.int 4)) dNil))) dNil)) (bN 4) [4] dYes (dCall (sp_law_any_value n) (dCons (dVar 0) (dCons (dOp gSub (dVar 1) (dC (.int 1))) dNil))))) (dgName 3))
  (dRet (dIf (dB (dOp gEq (dCall sp_law_tear (dCons (dVar 0) (dCons (dC (.int 3)) dNil))) (dC (.int 0)))) (dVar 3) (dCB gTuple (dCons (dVar 3) dNil))))))))
def n_law_any_value : List Str := ["_law_sheet_here", "_law_deep", "_law_some", "_law_strand", "_law_part"]
theorem len_law_any_value {n : Nat} {ds : List D} {G : Store} {Q : DQ} {E : DXK} (h : sp_law_any_value n ds G Q E) : ds.length = 2 := by
  unfold sp_law_any_value at h
  split at h
  · exact h.elim
  · rfl
  · exact h.elim
/-- what may be picked at once -/
def someV : List D := [.non, .bl true, .bl false, .int 0, .int 1, .int 2, .int 3, .int (-1), .int (10 ^ Int.toNat 30), .int (10 ^ Int.toNat 30 + 1), .str "", .str "over", .str "under", .str "v", .str "m", .str "o:u", .tup [], .lst []] ++ [.tup [.str "over"], .tup [.str "over", .str "under"], .tup [.tup [], .tup [.str "over"]], .tup [.int 1, .str "v"], .tup [.tup [.int 1, .str "v"], .tup [.int 2, .str "m"]], .tup [.int 0, .int 0], .str "vm", .lst [.int 1, .int 2]]
theorem someV_ok : someV.all (okD 4) = true := by decide +kernel
theorem someV_len : someV.length = 26 := by decide
theorem okD_lst {n : Nat} {ds : List D} (h : ds.length ≤ 1000) (h2 : ∀ d ∈ ds, okD n d = true) : okD (n + 1) (.lst ds) = true := by
  unfold okD
  rw [Bool.and_eq_true, List.all_eq_true]
  exact ⟨decide_eq_true h, h2⟩
theorem okD_tup {n : Nat} {ds : List D} (h : ds.length ≤ 1000) (h2 : ∀ d ∈ ds, okD n d = true) : okD (n + 1) (.tup ds) = true := by
  unfold okD
  rw [Bool.and_eq_true, List.all_eq_true]
  exact ⟨decide_eq_true h, h2⟩
theorem rd_law_any_value (n : Nat) : ∀ ds G Q E, sp_law_any_value (n + 1) ds G Q E → r_law_any_value n (endD Q E) (startD n_law_any_value ds) G := by
  intro ds G Q E h
  match ds, h with
  | [.obj (.ref p), .int j], h =>
    obtain ⟨h0, h1, q⟩ := h
    unfold r_law_any_value n_law_any_value
    unfold dComp dItR1
    walk_at "rd"
    repeat refine ⟨by decide, ?_⟩
    have pick : ∀ G1, shTo G p G1 → sp_law_pick [.obj (.ref p), .lst someV] G1 Q E := fun G1 hs => ⟨hs.ok, by rw [someV_len]; decide, fun d G2 hd hs2 => q d G2 (okD_up 4 _ d (by omega) (List.all_eq_true.mp someV_ok d hd)) (hs.trans hs2)⟩
    by_cases hj : j = 0
    · exact ifP hj (pick G h0.refl)
    · refine ifN hj ⟨h0, ⟨by decide, by decide⟩, fun r G1 r0 r1 s1 => ?_⟩
      walk_at "rd"
      by_cases hr : r < 6
      · exact ifP hr (pick G1 s1)
      · refine ifN hr ⟨s1.ok, ⟨by decide, by decide⟩, fun r' G2 r0' r1' s2 => ?_⟩
        walk_at "rd"
        refine ⟨⟨by omega, by omega⟩, ?_⟩
        have s12 := s1.trans s2
        obtain ⟨n', rfl⟩ : ∃ n', n = n' + 1 := ⟨n - 1, by omega⟩
        refine compL_J (fun acc G' => (∀ d ∈ acc, okD (n' + 4) d = true) ∧ shTo G p G') _ [] G2 ⟨(fun d hd => nomatch hd), s12⟩ (fun d hd => ⟨_, rfl, fun acc G3 Q3 hJ hq => ?_⟩) (by rw [← sz_ge, upto_len]; simp; omega) fun acc G3 hl hJ => ?_
        · walk_at "rd"
          refine ⟨hJ.2.ok, ⟨by omega, by omega⟩, fun d G4 hd hs => hq d G4 ⟨fun x hx => ?_, hJ.2.trans hs⟩⟩
          rcases List.mem_append.mp hx with k | k
          · exact hJ.1 x k
          · rw [List.mem_singleton.mp k]; exact hd
        · rw [List.length_nil, upto_len] at hl
          refine ⟨hJ.2.ok, ⟨by decide, by decide⟩, fun r3 G4 r30 r31 s4 => ?_⟩
          walk_at "rd"
          by_cases hz : r3 = 0
          · exact ifP hz (q _ G4 (okD_lst (by omega) hJ.1) (hJ.2.trans s4))
          · exact ifN hz (q _ G4 (okD_tup (by omega) hJ.1) (hJ.2.trans s4))
/-! ### bent -/
/-- tuples and short texts -/
def stD : Nat → D → Bool
  | _, .str z => decide (z.length ≤ 20) && PySem.PyData.strOk z
  | n + 1, .tup ds => decide (ds.length ≤ 12) && ds.all (stD n)
  | _, _ => false
theorem stD_ok : ∀ (n : Nat) (d : D), stD n d = true → okD n d = true
  | n, .str z, h => by
    have h2 : (decide (z.length ≤ 20) && PySem.PyData.strOk z) = true := by cases n <;> exact h
    rw [Bool.and_eq_true] at h2
    have h3 : (decide (z.length ≤ 1000) && PySem.PyData.strOk z) = true := by
      rw [Bool.and_eq_true]
      exact ⟨decide_eq_true (by have := of_decide_eq_true h2.1; omega), h2.2⟩
    cases n <;> exact h3
  | 0, .tup _, h => by cases h
  | n + 1, .tup ds, h => by
    unfold stD at h
    rw [Bool.and_eq_true, List.all_eq_true] at h
    refine okD_tup (by have := of_decide_eq_true h.1; omega) fun d hd => stD_ok n d (h.2 d hd)
  | 0, .non, h => by cases h
  | n + 1, .non, h => by cases h
  | 0, .bl _, h => by cases h
  | n + 1, .bl _, h => by cases h
  | 0, .int _, h => by cases h
  | n + 1, .int _, h => by cases h
  | 0, .lst _, h => by cases h
  | n + 1, .lst _, h => by cases h
  | 0, .scr _, h => by cases h
  | n + 1, .scr _, h => by cases h
  | 0, .obj _, h => by cases h
  | n + 1, .obj _, h => by cases h
theorem recD_st {e a : List Bool} (h1 : e.length ≤ 12) (h2 : a.length ≤ 12) : stD 2 (recD e a) = true := by
  have f : ∀ b, stD 0 (fD b) = true := fun b => by cases b <;> decide +kernel
  have g : ∀ l : List Bool, l.length ≤ 12 → stD 1 (foldsD l) = true := fun l hl => by
    show (decide ((l.map fD).length ≤ 12) && (l.map fD).all (stD 0)) = true
    rw [Bool.and_eq_true, List.all_eq_true]
    refine ⟨decide_eq_true (by rw [List.length_map]; exact hl), fun d hd => ?_⟩
    obtain ⟨b, _, rfl⟩ := List.mem_map.mp hd
    exact f b
  show (decide (2 ≤ 12) && ([foldsD e, foldsD a].all (stD 1))) = true
  rw [List.all_cons, List.all_cons, g e h1, g a h2]; rfl
def sp_law_bent : Nat → DSp
  | 0, _, _, _, _ => False
  | n + 1, [.obj (.ref p), d], G, Q, _ => (shOk G p ∧ n ≤ 40) ∧ stD n d = true ∧ ∀ (x : D) (G' : Store), okD (n + 6) x = true → shTo G p G' → Q x G'
  | _, _, _, _, _ => False
def r_law_bent (n : Nat) : DS := (dSeq (dIfS (dOr (dNot (dB (dCB gIsi (dCons (dVar 1) (dCons (dC (.obj (.ty "tuple"))) dNil))))) (dOr (dB (dOp gEq (dVar 1) (dTup dNil))) (dB (dOp gEq (dCall sp_law_tear (dCons (dVar 0) (dCons (dC (.int 7)) dNil))) (dC (.int 0)))))) (dSeq (dAsg (dLst (dCons (dCall (sp_law_any_value 2) (dCons (dVar 0) (dCons (dC (.int 1)) dNil))) (dCons (dCall (sp_law_any_value 2) (dCons (dVar 0) (dCons (dC (.int 1)) dNil))) dNil))) (dgName 2))
  (dSeq (dIfS (dB (dCB gIsi (dCons (dVar 1) (dCons (dC (.obj (.ty "str"))) dNil)))) (dAsg (dOp gAdd (dVar 2) (dLst (dCons (dC (.str "over")) (dCons (dC (.str "under")) (dCons (dC (.str "v")) (dCons (dC (.str "m")) (dCons (dC (.str "Over")) (dCons (dOp gAdd (dVar 1) (dC (.str "s"))) dNil)))))))) (dgName 2)) (dIfS (dB (dCB gIsi (dCons (dVar 1) (dCons (dC (.obj (.ty "int"))) dNil)))) dNever dNext))
  (dRet (dCall sp_law_pick (dCons (dVar 0) (dCons (dVar 2) dNil)))))) dNext)
  (dSeq (dPar 3 4 (dCons (dCall sp_law_tear (dCons (dVar 0) (dCons (dCB gLen (dCons (dVar 1) dNil)) dNil))) (dCons (dCall sp_law_tear (dCons (dVar 0) (dCons (dC (.int 9)) dNil))) dNil)))
  (dSeq (dIfS (dB (dOp gEq (dVar 4) (dC (.int 0)))) (dRet (dOp gAdd (dSl (dVar 1) dNone (dPart (dVar 3))) (dSl (dVar 1) (dPart (dOp gAdd (dVar 3) (dC (.int 1)))) dNone))) dNext)
  (dSeq (dIfS (dB (dOp gEq (dVar 4) (dC (.int 1)))) (dRet (dOp gAdd (dSl (dVar 1) dNone (dPart (dOp gAdd (dVar 3) (dC (.int 1))))) (dSl (dVar 1) (dPart (dVar 3)) dNone))) dNext)
  (dSeq (dIfS (dB (dOp gEq (dVar 4) (dC (.int 2)))) (dRet (dRev (dVar 1))) dNext)
  (dSeq (dIfS (dB (dOp gEq (dVar 4) (dC (.int 3)))) (dRet (dCB gList (dCons (dVar 1) dNil))) dNext)
  (dRet (dOp gAdd (dOp gAdd (dSl (dVar 1) dNone (dPart (dVar 3))) (dTup (dCons (dCall (sp_law_bent n) (dCons (dVar 0) (dCons (dOp gIx (dVar 1) (dVar 3)) dNil))) dNil))) (dSl (dVar 1) (dPart (dOp gAdd (dVar 3) (dC (.int 1)))) dNone)))))))))
def n_law_bent : List Str := ["_law_sheet_here", "_law_value", "_law_near", "_law_at", "_law_way"]
theorem len_law_bent {n : Nat} {ds : List D} {G : Store} {Q : DQ} {E : DXK} (h : sp_law_bent n ds G Q E) : ds.length = 2 := by
  unfold sp_law_bent at h
  split at h
  · exact h.elim
  · rfl
  · exact h.elim
theorem eqb_tnil {ds : List D} : eqb (.tup ds) (.tup []) = ds.isEmpty := by cases ds <;> rfl
theorem cut_from {ds : List D} {n : Nat} : cutD ds (some (n : Int)) none = ds.drop n := by
  unfold cutD
  rw [HT.sIx_none, HT.sIx_nat]
  by_cases h : n ≤ ds.length
  · rw [Nat.min_eq_left h, List.take_of_length_le (by rw [List.length_drop]; omega)]
  · rw [Nat.min_eq_right (by omega), List.drop_length, List.drop_of_length_le (by omega), List.take_nil]
theorem rd_law_bent (n : Nat) : ∀ ds G Q E, sp_law_bent (n + 1) ds G Q E → r_law_bent n (endD Q E) (startD n_law_bent ds) G := by
  intro ds G Q E h
  match ds, h with
  | [.obj (.ref p), d], h =>
    obtain ⟨⟨h0, hn⟩, h1, q⟩ := h
    unfold r_law_bent n_law_bent
    cases d with
    | tup ds =>
      have hfit := okD_fit _ _ (okD_up _ 60 _ (by omega) (stD_ok _ _ h1))
      have hst : ∃ m, n = m + 1 ∧ ds.length ≤ 12 ∧ ∀ d ∈ ds, stD m d = true := by
        cases n with
        | zero => cases h1
        | succ m =>
          unfold stD at h1
          rw [Bool.and_eq_true, List.all_eq_true] at h1
          exact ⟨m, rfl, of_decide_eq_true h1.1, h1.2⟩
      obtain ⟨m, rfl, hl, hds⟩ := hst
      have hok : ∀ d ∈ ds, okD (m + 6) d = true := fun d hd => okD_up m _ d (by omega) (stD_ok m d (hds d hd))
      have two : ∀ G1, shTo G p G1 → ∀ E', sp_law_any_value 2 [.obj (.ref p), .int 1] G1 (fun x G2 => sp_law_any_value 2 [.obj (.ref p), .int 1] G2 (fun y G3 => 2 ≤ sizeLine ∧ sp_law_pick [.obj (.ref p), .lst [x, y]] G3 Q E) E) E' := fun G1 s1 E' => by
        refine ⟨s1.ok, ⟨by decide, by decide⟩, fun x G2 hx s2 => ⟨s2.ok, ⟨by decide, by decide⟩, fun y G3 hy s3 => ⟨by decide, s3.ok, ⟨by show 0 < 2; decide, by show 2 ≤ 1000; decide⟩, fun d G4 hd s4 => ?_⟩⟩⟩
        refine q d G4 ?_ (((s1.trans s2).trans s3).trans s4)
        rcases List.mem_cons.mp hd with rfl | hd
        · exact okD_up 5 _ _ (by omega) hx
        · rw [List.mem_singleton.mp hd]; exact okD_up 5 _ _ (by omega) hy
      walk_at "rd"
      rw [eqb_tnil]
      refine ⟨by show 0 ≤ sizeLine; decide, by show (fit 60 (.tup ds) && fit 60 (.tup [])) = true; rw [hfit]; rfl, ?_⟩
      by_cases he : ds.isEmpty = true
      · exact ifP he (two G h0.refl E)
      · refine ifN he ⟨h0, ⟨by decide, by decide⟩, fun r7 G1 r0 r1 s1 => ?_⟩
        have hne : ds ≠ [] := fun z => he (by rw [z]; rfl)
        have hpos : 0 < ds.length := List.length_pos_iff.mpr hne
        walk_at "rd"
        by_cases hz : r7 = 0
        · exact ifP hz (two G1 s1 E)
        · refine ifN hz ⟨s1.ok, ⟨by omega, lt1040 (by omega)⟩, fun r G2 r0' r1' s2 => ⟨s2.ok, ⟨by decide, by decide⟩, fun w G3 w0 w1 s3 => ?_⟩⟩
          have s123 := (s1.trans s2).trans s3
          obtain ⟨i, rfl⟩ : ∃ i : Nat, r = (i : Int) := ⟨r.toNat, by omega⟩
          have e1 : (i : Int) + 1 = ((i + 1 : Nat) : Int) := by omega
          walk_at "rd"
          rw [e1]
          simp only [cut_to, cut_from]
          have okl : ∀ xs : List D, xs.length ≤ 100 → (∀ d ∈ xs, okD (m + 6) d = true) → okD (m + 1 + 6) (.tup xs) = true := fun xs h1 h2 => okD_tup (by omega) h2
          have mt : ∀ (k : Nat), ∀ d ∈ ds.take k, okD (m + 6) d = true := fun k d hd => hok d (List.mem_of_mem_take hd)
          have md : ∀ (k : Nat), ∀ d ∈ ds.drop k, okD (m + 6) d = true := fun k d hd => hok d (List.mem_of_mem_drop hd)
          have ma : ∀ (xs ys : List D), (∀ d ∈ xs, okD (m + 6) d = true) → (∀ d ∈ ys, okD (m + 6) d = true) → ∀ d ∈ xs ++ ys, okD (m + 6) d = true := fun xs ys h1 h2 d hd => by
            rcases List.mem_append.mp hd with k | k
            · exact h1 d k
            · exact h2 d k
          have lt : ∀ k, (ds.take k).length ≤ 12 := fun k => by rw [List.length_take]; omega
          have ld : ∀ k, (ds.drop k).length ≤ 12 := fun k => by rw [List.length_drop]; omega
          by_cases w0' : w = 0
          · refine ifP w0' ⟨le_sz (by have := lt i; have := ld (i + 1); omega), q _ G3 (okl _ ?_ (ma _ _ (mt _) (md _))) s123⟩
            rw [List.length_append]; have := lt i; have := ld (i + 1); omega
          · refine ifN w0' ?_
            by_cases w1' : w = 1
            · refine ifP w1' ⟨le_sz (by have := lt (i + 1); have := ld i; omega), q _ G3 (okl _ ?_ (ma _ _ (mt _) (md _))) s123⟩
              rw [List.length_append]; have := lt (i + 1); have := ld i; omega
            · refine ifN w1' ?_
              by_cases w2' : w = 2
              · exact ifP w2' (q _ G3 (okl _ (by rw [List.length_reverse]; omega) fun d hd => hok d (List.mem_reverse.mp hd)) s123)
              · refine ifN w2' ?_
                by_cases w3' : w = 3
                · exact ifP w3' (q _ G3 (okD_lst (by omega) hok) s123)
                · refine ifN w3' ?_
                  have hi : i < ds.length := by omega
                  refine ⟨_, atI_of (j := i) rfl (List.getElem?_eq_getElem hi), ?_⟩
                  show sp_law_bent (m + 1) _ _ _ _
                  refine ⟨⟨s3.ok, by omega⟩, hds _ (List.getElem_mem hi), fun x G4 hx s4 => ?_⟩
                  refine ⟨by show 1 ≤ sizeLine; decide, le_sz (by have := lt i; omega), le_sz (by rw [List.length_append]; have := lt i; have := ld (i + 1); simp; omega), q _ G4 (okl _ ?_ (ma _ _ (ma _ _ (mt _) ?_) (md _))) (s123.trans s4)⟩
                  · rw [List.length_append, List.length_append]; have := lt i; have := ld (i + 1); simp; omega
                  · intro d hd
                    rw [List.mem_singleton.mp hd]; exact hx
    | str z =>
      have hz : (decide (z.length ≤ 20) && PySem.PyData.strOk z) = true := by cases n <;> exact h1
      rw [Bool.and_eq_true] at hz
      have hz1 := of_decide_eq_true hz.1
      have hsl : (z ++ (Str.ofString "s")).length ≤ 21 := by
        rw [Str.length_append]
        have : (Str.ofString "s").length = 1 := by decide +kernel
        omega
      have hs1 : okD 0 (.str (z ++ (Str.ofString "s"))) = true := by
        show (decide ((z ++ (Str.ofString "s")).length ≤ 1000) && PySem.PyData.strOk (z ++ (Str.ofString "s"))) = true
        rw [Bool.and_eq_true]
        refine ⟨decide_eq_true (by omega), ?_⟩
        have e1 : ∀ c ∈ z.cps.toList, c < 0x110000 := by
          have := hz.2
          unfold PySem.PyData.strOk at this
          rw [← Array.all_toList, List.all_eq_true] at this
          exact fun c hc => of_decide_eq_true (this c hc)
        unfold PySem.PyData.strOk
        rw [← Array.all_toList, List.all_eq_true]
        intro c hc
        have e2 : (z ++ (Str.ofString "s")).cps.toList = z.cps.toList ++ (Str.ofString "s").cps.toList := TL.tl_append z (Str.ofString "s")
        rw [e2] at hc
        rcases List.mem_append.mp hc with k | k
        · exact decide_eq_true (e1 c k)
        · have e3 : (Str.ofString "s").cps.toList = [115] := by decide +kernel
          rw [e3] at k
          rw [List.mem_singleton.mp k]; decide
      walk_at "rd"
      refine ⟨h0, ⟨by decide, by decide⟩, fun x G2 hx s2 => ⟨s2.ok, ⟨by decide, by decide⟩, fun y G3 hy s3 => ⟨by decide, ?_, by decide, by decide, s3.ok, ⟨by show 0 < 8; decide, by show 8 ≤ 1000; decide⟩, fun d G4 hd s4 => ?_⟩⟩⟩
      · have : (Str.ofString "s").length = 1 := by decide +kernel
        exact le_sz (by omega)
      · have cs : okD 0 (.str "over") = true ∧ okD 0 (.str "under") = true ∧ okD 0 (.str "v") = true ∧ okD 0 (.str "m") = true ∧ okD 0 (.str "Over") = true := by decide +kernel
        refine q d G4 ?_ ((s2.trans s3).trans s4)
        simp only [List.mem_cons, List.not_mem_nil, or_false] at hd
        rcases hd with rfl | rfl | rfl | rfl | rfl | rfl | rfl | rfl
        · exact okD_up 5 _ _ (by omega) hx
        · exact okD_up 5 _ _ (by omega) hy
        · exact okD_up 0 _ _ (by omega) cs.1
        · exact okD_up 0 _ _ (by omega) cs.2.1
        · exact okD_up 0 _ _ (by omega) cs.2.2.1
        · exact okD_up 0 _ _ (by omega) cs.2.2.2.1
        · exact okD_up 0 _ _ (by omega) cs.2.2.2.2
        · exact okD_up 0 _ _ (by omega) hs1
    | int i => cases n <;> cases h1
    | bl b => cases n <;> cases h1
    | non => cases n <;> cases h1
    | lst _ => cases n <;> cases h1
    | scr _ => cases n <;> cases h1
    | obj _ => cases n <;> cases h1
end FD

set_option Elab.async false
set_option linter.all false
set_option maxRecDepth 100000
set_option maxHeartbeats 4000000
set_option autoImplicit false
/-! Readings of the law k02's defs: small strips. -/
namespace FD
open PySem PySem.Spec PyProof.Rows L2
local macro_rules | `(tactic| walk_at "rd") => `(tactic| simp only [startD, wipeD, dVar, dC, dOp, dUn, dCB, dCons, dNil, dRet, dSeq, dNext, dPass, dDrop, dIfS_eq, dAsg, dgName, dgTupN, dgCons, dgNil, dPar, dB, dAnd_eq, dOr_eq, dNot, dAndV_eq, dOrV_eq, dNotV, dIf_eq, dTup, dLst, dNeg, dChain_eq, dCall, dRaise, dImm, dMut, dYes, dRev, dM1, dSl, dNone, dPart, andK_bl, ifnot,
  gAdd, gSub, gMul, gDiv, gMod, gPow, gEq, gNe, gCmpI, gIx, gSl, gLen, gInt, gAbs, gMax, gMin, gTuple, gList, gIsi, gIn, gIsN, gNotN, isNon, gCount, kbs, eqb_int, eqb_str, eqb_bl, cmp_int, cmp_str, cmp_bl,
  List.map_cons, List.map_nil, List.replicate, List.length_cons, List.length_nil, List.cons_append, List.nil_append, List.append_nil, Bool.not_true, Bool.not_false,
  List.getElem?_cons_zero, List.getElem?_cons_succ, List.set_cons_zero, List.set_cons_succ, Option.some.injEq, exists_eq_left', exists_eq_left, true_and, and_true, Nat.reduceAdd, Nat.reduceSub, tyN, reduceCtorEq, false_and, exists_false, decide_eq_true_eq, if_true, if_false, Bool.false_eq_true])
theorem forL_each {g : DG} {f : DS} {B : DEnds} (Inv : DEnv → Store → Prop) : ∀ (ds : List D), (∀ d ∈ ds, ∀ (ρ : DEnv) (G : Store) (B' : DEnds), Inv ρ G → B'.rt = B.rt → B'.er = B.er → (∀ ρ' G', Inv ρ' G' → B'.nx ρ' G') → g d ρ G (fun ρ' G' => f B' ρ' G') B'.er) →
    ∀ (ρ : DEnv) (G : Store), Inv ρ G → (∀ ρ' G', Inv ρ' G' → B.nx ρ' G') → forL g f B ds ρ G
  | [], _, ρ, G, hi, hn => hn ρ G hi
  | d :: ds, h, ρ, G, hi, hn => by
    unfold forL
    exact h d List.mem_cons_self ρ G { B with nx := forL g f B ds, ct := forL g f B ds, bk := B.nx } hi rfl rfl fun ρ' G' hi' => forL_each Inv ds (fun d' hd => h d' (List.mem_cons_of_mem _ hd)) ρ' G' hi' hn
theorem fD_inj {a b : Bool} (h : fD a = fD b) : a = b := by
  have h2 : fS a = fS b := D.str.inj h
  have := eq_over a
  rw [h2, eq_over b] at this
  exact this.symm
theorem foldsD_inj {a b : List Bool} (h : foldsD a = foldsD b) : a = b := by
  have h2 : a.map fD = b.map fD := D.tup.inj h
  exact List.map_inj_right (fun _ _ => fD_inj) |>.mp h2
theorem recD_inj {e a e' a' : List Bool} (h : recD e a = recD e' a') : e = e' ∧ a = a' := by
  have h2 := D.tup.inj h
  have h3 := List.cons.inj h2
  exact ⟨foldsD_inj h3.1, foldsD_inj (List.cons.inj h3.2).1⟩
theorem recD_ok {e a : List Bool} (h1 : e.length ≤ 12) (h2 : a.length ≤ 12) : okD 50 (recD e a) = true := okD_up 2 50 _ (by omega) (stD_ok 2 _ (recD_st h1 h2))
theorem isRec_rec {e a : List Bool} (h1 : e.length ≤ 12) (h0 : 0 < a.length) (h2 : a.length ≤ 12) : isRecD (recD e a) = true := isRec_iff.mpr ⟨e, a, rfl, h1, h0, h2⟩
theorem isInt_true {lo hi i : Int} (h1 : lo ≤ i) (h2 : i ≤ hi) : isIntD lo hi (.int i) = true := by
  show (decide (lo ≤ i) && decide (i ≤ hi)) = true
  rw [decide_eq_true h1, decide_eq_true h2]; rfl
theorem strip_ok {e a : List Bool} {n j : Nat} {G : Store} {E : DXK} {K : List Bool → Nat → Prop} (h1 : e.length ≤ 12) (h0 : 0 < a.length) (h2 : a.length ≤ 12) (hn : n ≤ 100) (hj : 0 < j) (hj2 : j < 2 ^ n) (k : K (foldsB e a n) j) :
    stripK (recD e a) (.int (n : Int)) (.int (j : Int)) G E K := by
  refine ⟨recD_ok h1 h2, rfl, rfl, fun h => ?_, fun _ h => ?_, fun i _ hi hi2 h => ?_, fun e' a' i' j' _ e1 _ e2 _ e3 _ _ => ?_⟩
  · rw [isRec_rec h1 h0 h2] at h; cases h
  · rw [isInt_true (by omega) (by omega)] at h; cases h
  · have e1 := D.int.inj hi
    obtain rfl : i = n := by omega
    unfold lastI at h
    rw [Int.toNat_natCast, isInt_true (by omega) (by omega)] at h; cases h
  · obtain ⟨rfl, rfl⟩ := recD_inj e1
    have q2 := D.int.inj e2
    have q3 := D.int.inj e3
    obtain rfl : i' = n := by omega
    obtain rfl : j' = j := by omega
    exact k
theorem crease_ok {e a : List Bool} {n j : Nat} {G : Store} {Q : DQ} {E : DXK} (h1 : e.length ≤ 12) (h0 : 0 < a.length) (h2 : a.length ≤ 12) (hn : n ≤ 100) (hj : 0 < j) (hj2 : j < 2 ^ n) (k : Q (cD (crR (foldsB e a n).reverse j)) G) :
    sp_crease [recD e a, .int (n : Int), .int (j : Int)] G Q E := by
  unfold sp_crease
  exact strip_ok h1 h0 h2 hn hj hj2 k
theorem valleys_ok {e a : List Bool} {n j : Nat} {G : Store} {Q : DQ} {E : DXK} (h1 : e.length ≤ 12) (h0 : 0 < a.length) (h2 : a.length ≤ 12) (hn : n ≤ 100) (hj : 0 < j) (hj2 : j < 2 ^ n) (k : Q (.int (vlR (foldsB e a n).reverse j : Nat)) G) :
    sp_valleys [recD e a, .int (n : Int), .int (j : Int)] G Q E := by
  unfold sp_valleys
  exact strip_ok h1 h0 h2 hn hj hj2 k
theorem row_ok {e a : List Bool} {n j l : Nat} {G : Store} {Q : DQ} {E : DXK} (h1 : e.length ≤ 12) (h0 : 0 < a.length) (h2 : a.length ≤ 12) (hn : n ≤ 100) (hj : 0 < j) (hj2 : j < 2 ^ n) (hl : 1 ≤ l) (hl2 : l ≤ 60) (hb : j + l ≤ 2 ^ n) (k : Q (.str (wS (rowB (foldsB e a n).reverse j l))) G) :
    sp_row [recD e a, .int (n : Int), .int (j : Int), .int (l : Int)] G Q E := by
  unfold sp_row
  refine ⟨rfl, strip_ok h1 h0 h2 hn hj hj2 ⟨fun h => ?_, fun m e _ _ h => ?_, fun m e _ _ _ => ?_⟩⟩
  · rw [isInt_true (by omega) (by omega)] at h; cases h
  · have e := D.int.inj e
    obtain rfl : l = m := by omega
    rw [foldsB_len] at h; omega
  · have e := D.int.inj e
    obtain rfl : l = m := by omega
    exact k
def l_law_small_right_1 : DS := (dFor (dItW2 (dCons (dC (.int 1)) (dCons (dOp gAdd (dCB gLen (dCons (dVar 2) dNil)) (dC (.int 1))) dNil))) (dgName 4) (dIfS (dB (dOp gNe (dCall sp_valleys (dCons (dVar 0) (dCons (dVar 1) (dCons (dVar 4) dNil)))) (dM1 gCount (dSl (dVar 2) dNone (dPart (dVar 4))) (dC (.str "v"))))) (dRet (dC (.bl false))) dNext))
def l_law_small_right_2 : DS := (dFor (dItT (dTup (dCons (dC (.int 1)) (dCons (dC (.int 2)) (dCons (dC (.int 60)) dNil))))) (dgName 5) (dSeq (dAsg (dSl (dVar 2) (dPart (dOp gSub (dVar 4) (dC (.int 1)))) (dPart (dOp gSub (dOp gAdd (dVar 4) (dVar 5)) (dC (.int 1))))) (dgName 6))
  (dIfS (dAnd (dB (dOp gEq (dCB gLen (dCons (dVar 6) dNil)) (dVar 5))) (dB (dOp gNe (dCall sp_row (dCons (dVar 0) (dCons (dVar 1) (dCons (dVar 4) (dCons (dVar 5) dNil))))) (dVar 6)))) (dRet (dC (.bl false))) dNext)))
def l_law_small_right_3 : DS := (dFor (dItT (dTup (dCons (dC (.int 1)) (dCons (dOp gAdd (dOp gDiv (dCB gLen (dCons (dVar 2) dNil)) (dC (.int 2))) (dC (.int 1))) (dCons (dCB gLen (dCons (dVar 2) dNil)) dNil))))) (dgName 4) l_law_small_right_2)
def r_law_small_right : DS := (dSeq (dAsg (dCall sp_law_strip (dCons (dCall sp_law_first (dCons (dVar 0) (dCons (dVar 1) dNil))) dNil)) (dgName 2))
  (dSeq (dAsg (dM1 gJoin (dC (.str "")) (dImm (dComp (dItW2 (dCons (dC (.int 1)) (dCons (dOp gAdd (dCB gLen (dCons (dVar 2) dNil)) (dC (.int 1))) dNil))) (bN 4) [4] dYes (dCall sp_crease (dCons (dVar 0) (dCons (dVar 1) (dCons (dVar 4) dNil))))))) (dgName 3))
  (dSeq (dIfS (dOr (dB (dOp gNe (dVar 3) (dVar 2))) (dB (dOp gNe (dCB gLen (dCons (dVar 2) dNil)) (dOp gSub (dCall sp_law_doubled (dCons (dVar 1) dNil)) (dC (.int 1)))))) (dRet (dC (.bl false))) dNext)
  (dSeq l_law_small_right_1
  (dSeq l_law_small_right_3
  (dRet (dC (.bl true))))))))
def n_law_small_right : List Str := ["_law_recipe", "_law_many", "_law_due", "_law_found", "_law_place", "_law_length", "_law_some"]
def sp_law_small_right : DSp
  | [.tup [.tup es, .tup as], .int n], G, Q, _ => ∃ e a : List Bool, es = e.map fD ∧ as = a.map fD ∧ (e.length ≤ 12 ∧ 0 < a.length ∧ a.length ≤ 12) ∧ (1 ≤ n ∧ n ≤ 13) ∧ Q (.bl true) G
  | _, _, _, _ => False
theorem len_law_small_right {ds : List D} {G : Store} {Q : DQ} {E : DXK} (h : sp_law_small_right ds G Q E) : ds.length = 2 := by
  unfold sp_law_small_right at h
  split at h
  · rfl
  · exact h.elim
theorem allC_upto (gs : List Bool) : (upto 1 (2 ^ gs.length - 1)).map (fun d => cD (crR gs (natD d))) = (allC gs).map cD := by
  unfold upto allC
  rw [List.map_map, List.map_map]
  refine List.map_congr_left fun i _ => ?_
  show cD (crR gs (1 + (i : Int)).toNat) = _
  have : (1 + (i : Int)).toNat = i + 1 := by omega
  rw [this]; rfl
theorem lp_small_1 {B : DEnds} {G : Store} {e a : List Bool} {n : Nat} {x t l s : Option D} (h1 : e.length ≤ 12) (h0 : 0 < a.length) (h2 : a.length ≤ 12) (hn : n ≤ 13)
    (q : ∀ t', B.nx [some (recD e a), some (.int (n : Int)), some (.str (wS (allC (foldsB e a n).reverse))), x, t', l, s] G) :
    l_law_small_right_1 B [some (recD e a), some (.int (n : Int)), some (.str (wS (allC (foldsB e a n).reverse))), x, t, l, s] G := by
  have hlen : (allC (foldsB e a n).reverse).length = 2 ^ n - 1 := by rw [allC_len, List.length_reverse, foldsB_len]
  have hp : 0 < 2 ^ n := Nat.pow_pos (by omega)
  have hp2 : 2 ^ n ≤ 2 ^ 13 := Nat.pow_le_pow_right (by omega) hn
  have hg : (foldsB e a n).reverse.length = n := by rw [List.length_reverse, foldsB_len]
  generalize hgs : (foldsB e a n).reverse = gs at *
  unfold l_law_small_right_1
  show dItW2 _ _ _ _ _
  unfold dItW2
  walk_at "rd"
  rw [wS_len, hlen]
  refine ⟨le_sz (by omega), ?_⟩
  have e1 : (((2 ^ n - 1 : Nat) : Int) + 1 - 1).toNat = 2 ^ n - 1 := by omega
  rw [e1]
  refine forL_each (fun ρ G' => G' = G ∧ ∃ t', ρ = [some (recD e a), some (.int (n : Int)), some (.str (wS (allC gs))), x, t', l, s]) _ (fun d hd ρ G1 B' hi hr he hx => ?_) _ _ ⟨rfl, t, rfl⟩ fun ρ' G' ⟨e1, t', e2⟩ => by rw [e1, e2]; exact q t'
  obtain ⟨rfl, t', rfl⟩ := hi
  obtain ⟨i, hi, rfl⟩ := mem_upto hd
  have e2 : (1 : Int) + (i : Int) = ((i + 1 : Nat) : Int) := by omega
  rw [e2]
  walk_at "rd"
  refine valleys_ok (n := n) (j := i + 1) h1 h0 h2 (by omega) (by omega) (by omega) ?_
  refine ⟨by rw [wS_len]; exact le_sz (by omega), ?_⟩
  rw [cutN_w, str_v, cnt_w, vlR_count _ _ (by rw [hg]; omega), hgs]
  walk_at "rd"
  exact hx _ _ ⟨rfl, _, rfl⟩
theorem take_row (gs : List Bool) (p l : Nat) (h : ((allC gs).drop (p - 1)).take (p + l - 1 - (p - 1)) = ((allC gs).drop (p - 1)).take (p + l - 1 - (p - 1))) (hp : 0 < p) (hl : p + l ≤ 2 ^ gs.length) : ((allC gs).drop (p - 1)).take (p + l - 1 - (p - 1)) = rowB gs p l := by
  apply List.ext_getElem?
  intro i
  unfold rowB
  have e : p + l - 1 - (p - 1) = l := by omega
  rw [e]
  by_cases hi : i < l
  · rw [List.getElem?_take_of_lt hi, List.getElem?_drop, allC_get (by omega), List.getElem?_map, List.getElem?_range hi]
    have : p - 1 + i + 1 = p + i := by omega
    rw [this]; rfl
  · rw [List.getElem?_eq_none (by rw [List.length_take]; omega), List.getElem?_eq_none (by rw [List.length_map, List.length_range]; omega)]
theorem lp_small_2 {B : DEnds} {G : Store} {e a : List Bool} {n p : Nat} {x l s : Option D} (h1 : e.length ≤ 12) (h0 : 0 < a.length) (h2 : a.length ≤ 12) (hn : n ≤ 13) (hp1 : 0 < p) (hp2 : p < 2 ^ n)
    (q : ∀ l' s', B.nx [some (recD e a), some (.int (n : Int)), some (.str (wS (allC (foldsB e a n).reverse))), x, some (.int (p : Int)), l', s'] G) :
    l_law_small_right_2 B [some (recD e a), some (.int (n : Int)), some (.str (wS (allC (foldsB e a n).reverse))), x, some (.int (p : Int)), l, s] G := by
  have hlen : (allC (foldsB e a n).reverse).length = 2 ^ n - 1 := by rw [allC_len, List.length_reverse, foldsB_len]
  have hpp : 2 ^ n ≤ 2 ^ 13 := Nat.pow_le_pow_right (by omega) hn
  have hg : (foldsB e a n).reverse.length = n := by rw [List.length_reverse, foldsB_len]
  generalize hgs : (foldsB e a n).reverse = gs at *
  unfold l_law_small_right_2
  show dItT _ _ _ _ _
  unfold dItT
  walk_at "rd"
  refine ⟨by show 3 ≤ sizeLine; decide, ?_⟩
  refine forL_each (fun ρ G' => G' = G ∧ ∃ l' s', ρ = [some (recD e a), some (.int (n : Int)), some (.str (wS (allC gs))), x, some (.int (p : Int)), l', s']) _ (fun d hd ρ G1 B' hi hr he hx => ?_) _ _ ⟨rfl, l, s, rfl⟩ fun ρ' G' ⟨e1, l', s', e2⟩ => by rw [e1, e2]; exact q l' s'
  obtain ⟨rfl, l', s', rfl⟩ := hi
  have hd : ∃ k : Nat, d = .int (k : Int) ∧ 1 ≤ k ∧ k ≤ 60 := by
    simp only [List.mem_cons, List.not_mem_nil, or_false] at hd
    rcases hd with rfl | rfl | rfl
    · exact ⟨1, rfl, by omega, by omega⟩
    · exact ⟨2, rfl, by omega, by omega⟩
    · exact ⟨60, rfl, by omega, by omega⟩
  obtain ⟨k, rfl, hk1, hk2⟩ := hd
  walk_at "rd"
  have e1 : (p : Int) - 1 = ((p - 1 : Nat) : Int) := by omega
  have e2 : (p : Int) + (k : Int) - 1 = ((p + k - 1 : Nat) : Int) := by omega
  rw [e1, e2, cut_w _ _ _ (by omega), wS_len, wS_len, hlen]
  refine ⟨le_sz (by omega), le_sz (by rw [List.length_take, List.length_drop, hlen]; omega), ?_⟩
  by_cases hb : p + k ≤ 2 ^ n
  · rw [take_row gs p k rfl hp1 (by rw [hg]; exact hb)]
    refine ifP (by unfold rowB; rw [List.length_map, List.length_range]) ?_
    refine row_ok (n := n) (j := p) (l := k) h1 h0 h2 (by omega) hp1 hp2 hk1 hk2 hb ?_
    rw [hgs]
    walk_at "rd"
    exact hx _ _ ⟨rfl, _, _, rfl⟩
  · refine ifN (by rw [List.length_take, List.length_drop, hlen]; omega) ?_
    exact hx _ _ ⟨rfl, _, _, rfl⟩
theorem lp_small_3 {B : DEnds} {G : Store} {e a : List Bool} {n : Nat} {x t l s : Option D} (h1 : e.length ≤ 12) (h0 : 0 < a.length) (h2 : a.length ≤ 12) (hn1 : 1 ≤ n) (hn : n ≤ 13)
    (q : ∀ t' l' s', B.nx [some (recD e a), some (.int (n : Int)), some (.str (wS (allC (foldsB e a n).reverse))), x, t', l', s'] G) :
    l_law_small_right_3 B [some (recD e a), some (.int (n : Int)), some (.str (wS (allC (foldsB e a n).reverse))), x, t, l, s] G := by
  have hlen : (allC (foldsB e a n).reverse).length = 2 ^ n - 1 := by rw [allC_len, List.length_reverse, foldsB_len]
  have hpp : 2 ^ n ≤ 2 ^ 13 := Nat.pow_le_pow_right (by omega) hn
  have hpq : 2 ^ 1 ≤ 2 ^ n := Nat.pow_le_pow_right (by omega) hn1
  unfold l_law_small_right_3
  show dItT _ _ _ _ _
  unfold dItT
  walk_at "rd"
  rw [wS_len, hlen]
  refine ⟨le_sz (by omega), by decide, le_sz (by omega), by show 3 ≤ sizeLine; decide, ?_⟩
  refine forL_each (fun ρ G' => G' = G ∧ ∃ t' l' s', ρ = [some (recD e a), some (.int (n : Int)), some (.str (wS (allC (foldsB e a n).reverse))), x, t', l', s']) _ (fun d hd ρ G1 B' hi hr he hx => ?_) _ _ ⟨rfl, t, l, s, rfl⟩ fun ρ' G' ⟨e1, t', l', s', e2⟩ => by rw [e1, e2]; exact q t' l' s'
  obtain ⟨rfl, t', l', s', rfl⟩ := hi
  have hd : ∃ k : Nat, d = .int (k : Int) ∧ 1 ≤ k ∧ k < 2 ^ n := by
    simp only [List.mem_cons, List.not_mem_nil, or_false] at hd
    rcases hd with rfl | rfl | rfl
    · exact ⟨1, rfl, by omega, by omega⟩
    · refine ⟨(2 ^ n - 1) / 2 + 1, ?_, by omega, by omega⟩
      have : ((2 ^ n - 1 : Nat) : Int) / 2 + 1 = (((2 ^ n - 1) / 2 + 1 : Nat) : Int) := by omega
      rw [this]
    · exact ⟨2 ^ n - 1, rfl, by omega, by omega⟩
  obtain ⟨k, rfl, hk1, hk2⟩ := hd
  walk_at "rd"
  exact lp_small_2 h1 h0 h2 hn (by omega) hk2 fun l'' s'' => hx _ _ ⟨rfl, _, _, _, rfl⟩
theorem rd_law_small_right : ∀ ds G Q E, sp_law_small_right ds G Q E → r_law_small_right (endD Q E) (startD n_law_small_right ds) G := by
  intro ds G Q E h
  unfold sp_law_small_right at h
  split at h
  · rename_i n
    obtain ⟨e, a, rfl, rfl, ⟨h1, h0, h2⟩, ⟨hn1, hn⟩, q⟩ := h
    obtain ⟨n, rfl⟩ : ∃ j : Nat, n = (j : Int) := ⟨n.toNat, by omega⟩
    have hlen : (allC (foldsB e a n).reverse).length = 2 ^ n - 1 := by rw [allC_len, List.length_reverse, foldsB_len]
    have hpp : 2 ^ n ≤ 2 ^ 13 := Nat.pow_le_pow_right (by omega) (by omega)
    have hpq : 2 ^ 1 ≤ 2 ^ n := Nat.pow_le_pow_right (by omega) (by omega)
    have hg : (foldsB e a n).reverse.length = n := by rw [List.length_reverse, foldsB_len]
    unfold r_law_small_right n_law_small_right
    unfold dComp dItW2
    walk_at "rd"
    refine ⟨e, a, rfl, rfl, ⟨h1, h0, h2⟩, ⟨by omega, by omega⟩, ?_⟩
    unfold foldsD
    walk_at "rd"
    rw [Int.toNat_natCast]
    refine ⟨foldsB e a n, rfl, by rw [foldsB_len]; omega, ?_⟩
    walk_at "rd"
    rw [wS_len, hlen]
    refine ⟨le_sz (by omega), ?_⟩
    have e1 : (((2 ^ n - 1 : Nat) : Int) + 1 - 1).toNat = 2 ^ n - 1 := by omega
    rw [e1]
    refine compL_map (fun d => cD (crR (foldsB e a n).reverse (natD d))) _ [] (fun d hd => ⟨_, rfl, fun Q hq => ?_⟩) (by rw [← sz_ge, upto_len]; simp; omega) ?_
    · obtain ⟨i, hi, rfl⟩ := mem_upto hd
      have e2 : (1 : Int) + (i : Int) = ((i + 1 : Nat) : Int) := by omega
      rw [e2] at hq ⊢
      walk_at "rd"
      exact crease_ok (n := n) (j := i + 1) h1 h0 h2 (by omega) (by omega) (by omega) hq
    · rw [List.nil_append]
      have e2 := allC_upto (foldsB e a n).reverse
      rw [hg] at e2
      rw [e2]
      refine join_ok (by rw [hlen]; omega) ?_
      walk_at "rd"
      refine ⟨le_sz (by omega), ⟨by omega, by omega⟩, ?_⟩
      walk_at "rd"
      rw [Int.toNat_natCast]
      have e3 : ((2 ^ n - 1 : Nat) : Int) = ((2 ^ n : Nat) : Int) - 1 := by omega
      refine ifP e3 ?_
      refine lp_small_1 h1 h0 h2 (by omega) fun t' => ?_
      walk_at "rd"
      refine lp_small_3 h1 h0 h2 (by omega) (by omega) fun t' l' s' => ?_
      exact q
  · exact h.elim
end FD

set_option Elab.async false
set_option linter.all false
set_option maxRecDepth 100000
set_option maxHeartbeats 4000000
set_option autoImplicit false
/-! Readings of the law k02's defs: great strips. -/
namespace FD
open PySem PySem.Spec PyProof.Rows L2
local macro_rules | `(tactic| walk_at "rd") => `(tactic| simp only [startD, wipeD, dVar, dC, dOp, dUn, dCB, dCons, dNil, dRet, dSeq, dNext, dPass, dDrop, dIfS_eq, dAsg, dgName, dgTupN, dgCons, dgNil, dPar, dB, dAnd_eq, dOr_eq, dNot, dAndV_eq, dOrV_eq, dNotV, dIf_eq, dTup, dLst, dNeg, dChain_eq, dCall, dRaise, dImm, dMut, dYes, dRev, dM1, dSl, dNone, dPart, andK_bl, ifnot,
  gAdd, gSub, gMul, gDiv, gMod, gPow, gEq, gNe, gCmpI, gIx, gSl, gLen, gInt, gAbs, gMax, gMin, gTuple, gList, gIsi, gIn, gIsN, gNotN, isNon, gCount, kbs, eqb_int, eqb_str, eqb_bl, cmp_int, cmp_str, cmp_bl,
  List.map_cons, List.map_nil, List.replicate, List.length_cons, List.length_nil, List.cons_append, List.nil_append, List.append_nil, Bool.not_true, Bool.not_false,
  List.getElem?_cons_zero, List.getElem?_cons_succ, List.set_cons_zero, List.set_cons_succ, Option.some.injEq, exists_eq_left', exists_eq_left, true_and, and_true, Nat.reduceAdd, Nat.reduceSub, tyN, reduceCtorEq, false_and, exists_false, decide_eq_true_eq, if_true, if_false, Bool.false_eq_true])
theorem shTo.mk' {G G' : Store} {p : Addr} (h : shOk G' p) (n : ∀ b, b ≠ p → G' b = G b) : shTo G p G' := by
  obtain ⟨a, b, e, h1, h2, h3⟩ := h
  refine ⟨a, b, funext fun c => ?_, h1, h2, h3⟩
  by_cases hc : c = p
  · rw [hc, put_same, e]
  · rw [put_ne hc, n c hc]
/-- a sheet and a list beside -/
structure shQ (G : Store) (p q : Addr) (ds : List D) (G' : Store) : Prop where
  ok : shOk G' p
  at_ : G' q = some (.lst ds)
  ne : q ≠ p
  old : ∀ b, b ≠ p → b ≠ q → G' b = G b
theorem shQ.mk0 {G G1 : Store} {p q : Addr} {ds : List D} (h : shTo G p G1) (n : G1 q = none) : shQ G p q ds (put G1 q (.lst ds)) := by
  have ne : q ≠ p := fun e => by
    obtain ⟨a, b, e2, _⟩ := h.ok
    rw [← e, n] at e2; cases e2
  obtain ⟨a, b, e2, h1, h2, h3⟩ := h.ok
  exact ⟨⟨a, b, by rw [put_ne (Ne.symm ne)]; exact e2, h1, h2, h3⟩, put_same, ne, fun b h1 h2 => by rw [put_ne h2, h.ne h1]⟩
theorem shQ.to {G G1 G2 : Store} {p q : Addr} {ds : List D} (h : shQ G p q ds G1) (t : shTo G1 p G2) : shQ G p q ds G2 :=
  ⟨t.ok, by rw [t.ne h.ne]; exact h.at_, h.ne, fun b h1 h2 => by rw [t.ne h1, h.old b h1 h2]⟩
theorem shQ.put {G G1 : Store} {p q : Addr} {ds es : List D} (h : shQ G p q ds G1) : shQ G p q es (FD.put G1 q (.lst es)) := by
  obtain ⟨a, b, e2, h1, h2, h3⟩ := h.ok
  exact ⟨⟨a, b, by rw [put_ne (Ne.symm h.ne)]; exact e2, h1, h2, h3⟩, put_same, h.ne, fun b h1 h2 => by rw [put_ne h2, h.old b h1 h2]⟩
theorem shQ.era {G G1 : Store} {p q : Addr} {ds : List D} (h : shQ G p q ds G1) (n : G q = none) : shTo G p (FD.era G1 q) := by
  obtain ⟨a, b, e2, h1, h2, h3⟩ := h.ok
  refine shTo.mk' ⟨a, b, ?_, h1, h2, h3⟩ fun c hc => ?_
  · unfold FD.era
    rw [if_neg (Ne.symm h.ne)]; exact e2
  · unfold FD.era
    by_cases e : c = q
    · rw [if_pos e, e, n]
    · rw [if_neg e, h.old c hc e]
def l_law_great_right_1 : DS := (dFor (dItL (dVar 4)) (dgName 5) (dIfS (dB (dChain gLt gLe (dC (.int 0)) (dVar 5) (dVar 7))) (dSeq (dIfS (dB (dOp gNe (dCall sp_crease (dCons (dVar 1) (dCons (dVar 2) (dCons (dVar 5) dNil)))) (dCall sp_law_crease (dCons (dVar 6) (dCons (dVar 5) dNil))))) (dRet (dC (.bl false))) dNext)
  (dSeq (dAsg (dCB gMin (dCons (dOp gAdd (dC (.int 1)) (dCall sp_law_tear (dCons (dVar 0) (dCons (dC (.int 20)) dNil)))) (dCons (dOp gAdd (dOp gSub (dVar 7) (dVar 5)) (dC (.int 1))) dNil))) (dgName 10))
  (dSeq (dAsg (dM1 gJoin (dC (.str "")) (dImm (dComp (dItW2 (dCons (dVar 5) (dCons (dOp gAdd (dVar 5) (dVar 10)) dNil))) (bN 13) [13] dYes (dCall sp_law_crease (dCons (dVar 6) (dCons (dVar 13) dNil)))))) (dgName 11))
  (dSeq (dIfS (dB (dOp gNe (dCall sp_row (dCons (dVar 1) (dCons (dVar 2) (dCons (dVar 5) (dCons (dVar 10) dNil))))) (dVar 11))) (dRet (dC (.bl false))) dNext)
  (dIfS (dB (dOp gGt (dVar 5) (dC (.int 1)))) (dSeq (dAsg (dOp gSub (dCall sp_valleys (dCons (dVar 1) (dCons (dVar 2) (dCons (dVar 5) dNil)))) (dCall sp_valleys (dCons (dVar 1) (dCons (dVar 2) (dCons (dOp gSub (dVar 5) (dC (.int 1))) dNil))))) (dgName 12))
  (dIfS (dB (dOp gNe (dVar 12) (dCB gInt (dCons (dOp gEq (dCall sp_law_crease (dCons (dVar 6) (dCons (dVar 5) dNil))) (dC (.str "v"))) dNil)))) (dRet (dC (.bl false))) dNext)) dNext))))) dNext))
def r_law_great_right : DS := (dSeq (dAsg (dTup (dCons (dCall sp_law_first (dCons (dVar 1) (dCons (dVar 2) dNil))) (dCons (dOp gSub (dCall sp_law_doubled (dCons (dVar 2) dNil)) (dC (.int 1))) dNil))) (dgTupN 2 (dgCons (dgName 6) (dgCons (dgName 7) dgNil))))
  (dSeq (dAsg (dCall sp_law_doubled (dCons (dOp gSub (dVar 2) (dC (.int 1))) dNil)) (dgName 3))
  (dSeq (dAsg (dLstM (dCons (dOp gAdd (dC (.int 1)) (dCall sp_law_tear (dCons (dVar 0) (dCons (dVar 7) dNil)))) (dCons (dVar 3) (dCons (dVar 7) (dCons (dOp gMul (dC (.int 3)) (dOp gDiv (dVar 3) (dC (.int 2)))) (dCons (dOp gSub (dVar 3) (dC (.int 1))) (dCons (dOp gSub (dVar 7) (dCall sp_law_tear (dCons (dVar 0) (dCons (dC (.int 20)) dNil)))) dNil))))))) (dgName 4))
  (dSeq (dDrop (dApp (dVar 4) (dOp gMul (dCall sp_law_doubled (dCons (dCall sp_law_tear (dCons (dVar 0) (dCons (dVar 2) dNil))) dNil)) (dOp gAdd (dC (.int 1)) (dOp gMul (dC (.int 2)) (dCall sp_law_tear (dCons (dVar 0) (dCons (dC (.int 2)) dNil))))))))
  (dSeq (dDrop (dApp (dVar 4) (dOp gAdd (dC (.int 1)) (dCall sp_law_tear (dCons (dVar 0) (dCons (dVar 7) dNil))))))
  (dFreeze 4 (dSeq l_law_great_right_1
  (dSeq (dPar 8 9 (dCons (dCall sp_valleys (dCons (dVar 1) (dCons (dVar 2) (dCons (dOp gSub (dVar 3) (dC (.int 1))) dNil)))) (dCons (dCall sp_valleys (dCons (dVar 1) (dCons (dVar 2) (dCons (dVar 7) dNil)))) dNil)))
  (dRet (dOp gEq (dOp gSub (dVar 9) (dVar 8)) (dOp gAdd (dOp gSub (dOp gSub (dVar 3) (dC (.int 1))) (dVar 8)) (dCB gInt (dCons (dOp gEq (dOp gIx (dVar 6) (dC (.int 0))) (dC (.str "over"))) dNil)))))))))))))
def n_law_great_right : List Str := ["_law_sheet_here", "_law_recipe", "_law_many", "_law_half", "_law_places", "_law_place", "_law_folds_here", "_law_last", "_law_left", "_law_right", "_law_length", "_law_due", "_law_step", "_law_spot"]
def sp_law_great_right : DSp
  | [.obj (.ref p), .tup [.tup es, .tup as], .int n], G, Q, _ => ∃ e a : List Bool, es = e.map fD ∧ as = a.map fD ∧ (e.length ≤ 12 ∧ 0 < a.length ∧ a.length ≤ 12) ∧ (2 ≤ n ∧ n ≤ 100) ∧ shOk G p ∧ ∀ G', shTo G p G' → Q (.bl true) G'
  | _, _, _, _ => False
theorem len_law_great_right {ds : List D} {G : Store} {Q : DQ} {E : DXK} (h : sp_law_great_right ds G Q E) : ds.length = 3 := by
  unfold sp_law_great_right at h
  split at h
  · rfl
  · exact h.elim
theorem law_crease_ok {fs : List Bool} {j : Nat} {G : Store} {Q : DQ} {E : DXK} (hl : fs.length ≤ 128) (hj : 0 < j) (hj2 : j < 2 ^ fs.length) (k : Q (cD (crR fs.reverse j)) G) : sp_law_crease [foldsD fs, .int (j : Int)] G Q E := by
  unfold sp_law_crease foldsD
  refine ⟨fs, rfl, hl, by omega, by omega, ?_⟩
  rw [Int.toNat_natCast]; exact k
theorem p2lt {n : Nat} (h : n ≤ 100) : ((2 ^ n : Nat) : Int) < 10 ^ 40 := by
  have h1 : 2 ^ n ≤ 2 ^ 100 := Nat.pow_le_pow_right (by omega) h
  have h2 : ((2 ^ 100 : Nat) : Int) < 10 ^ 40 := by decide
  omega
theorem valley_step (gs : List Bool) (j : Nat) (h : 1 < j) : ((vlR gs j : Nat) : Int) - ((vlR gs (j - 1) : Nat) : Int) = if crR gs j = true then 1 else 0 := by
  obtain ⟨k, rfl⟩ : ∃ k, j = k + 1 := ⟨j - 1, by omega⟩
  rw [vlR_succ, Nat.add_sub_cancel]
  cases crR gs (k + 1)
  · simp
  · simp; omega
theorem lp_great {B : DEnds} {G0 : Store} {p : Addr} {e a : List Bool} {n : Nat} {h x8 x9 : Option D} {ds : List D} (h1 : e.length ≤ 12) (h0 : 0 < a.length) (h2 : a.length ≤ 12) (hn1 : 2 ≤ n) (hn : n ≤ 100)
    (hds : ∀ d ∈ ds, ∃ i, d = .int i) {t x10 x11 x12 x13 : Option D} {G : Store} (hG : shTo G0 p G)
    (q : ∀ t x10 x11 x12 x13 G', shTo G0 p G' → B.nx [some (.obj (.ref p)), some (recD e a), some (.int (n : Int)), h, some (.lst ds), t, some (foldsD (foldsB e a n)), some (.int (((2 ^ n : Nat) : Int) - 1)), x8, x9, x10, x11, x12, x13] G') :
    l_law_great_right_1 B [some (.obj (.ref p)), some (recD e a), some (.int (n : Int)), h, some (.lst ds), t, some (foldsD (foldsB e a n)), some (.int (((2 ^ n : Nat) : Int) - 1)), x8, x9, x10, x11, x12, x13] G := by
  have hlen := foldsB_len e a n
  have hpp : 4 ≤ 2 ^ n := by
    have : 2 ^ 2 ≤ 2 ^ n := Nat.pow_le_pow_right (by omega) hn1
    omega
  unfold l_law_great_right_1
  refine Exists.intro _ ⟨rfl, ?_⟩
  walk_at "rd"
  refine forL_each (fun ρ G' => shTo G0 p G' ∧ ∃ t x10 x11 x12 x13, ρ = [some (.obj (.ref p)), some (recD e a), some (.int (n : Int)), h, some (.lst ds), t, some (foldsD (foldsB e a n)), some (.int (((2 ^ n : Nat) : Int) - 1)), x8, x9, x10, x11, x12, x13]) _ (fun d hd ρ G1 B' hi hr he hx => ?_) _ _ ⟨hG, t, x10, x11, x12, x13, rfl⟩ fun ρ' G' ⟨e1, t, x10, x11, x12, x13, e2⟩ => by rw [e2]; exact q _ _ _ _ _ _ e1
  obtain ⟨hs, t, x10, x11, x12, x13, rfl⟩ := hi
  obtain ⟨i, rfl⟩ := hds d hd
  unfold dComp dItW2
  walk_at "rd"
  have skip : ∀ t x10 x11 x12 x13 G', shTo G0 p G' → B'.nx [some (.obj (.ref p)), some (recD e a), some (.int (n : Int)), h, some (.lst ds), t, some (foldsD (foldsB e a n)), some (.int (((2 ^ n : Nat) : Int) - 1)), x8, x9, x10, x11, x12, x13] G' := fun t x10 x11 x12 x13 G' hg => hx _ _ ⟨hg, _, _, _, _, _, rfl⟩
  by_cases hi0 : 0 < i
  case neg => exact ifN hi0 (skip _ _ _ _ _ _ hs)
  refine ifP hi0 ?_
  by_cases hi1 : i ≤ ((2 ^ n : Nat) : Int) - 1
  case neg => exact ifN hi1 (skip _ _ _ _ _ _ hs)
  refine ifP hi1 ?_
  obtain ⟨j, rfl⟩ : ∃ j : Nat, i = (j : Int) := ⟨i.toNat, by omega⟩
  have hj1 : 0 < j := by omega
  have hj2 : j < 2 ^ n := by omega
  have lc : ∀ {k : Nat} {G : Store} {Q : DQ} {E : DXK}, 0 < k → k < 2 ^ n → Q (cD (crR (foldsB e a n).reverse k)) G → sp_law_crease [foldsD (foldsB e a n), .int (k : Int)] G Q E := fun h1 h2 k => law_crease_ok (by rw [hlen]; omega) h1 (by rw [hlen]; exact h2) k
  refine crease_ok h1 h0 h2 hn hj1 hj2 (lc hj1 hj2 ?_)
  simp only [cD]
  walk_at "rd"
  refine ⟨hs.ok, ⟨by decide, by decide⟩, fun r G2 r0 r1 s2 => ?_⟩
  have hs2 := hs.trans s2
  walk_at "rd"
  obtain ⟨l, hl, hl1, hl2, hl3⟩ : ∃ l : Nat, (if ((2 ^ n : Nat) : Int) - 1 - (j : Int) + 1 < 1 + r then ((2 ^ n : Nat) : Int) - 1 - (j : Int) + 1 else 1 + r) = (l : Int) ∧ 1 ≤ l ∧ l ≤ 60 ∧ j + l ≤ 2 ^ n := by
    split
    · exact ⟨(((2 ^ n : Nat) : Int) - 1 - (j : Int) + 1).toNat, by omega, by omega, by omega, by omega⟩
    · exact ⟨(1 + r).toNat, by omega, by omega, by omega, by omega⟩
  rw [hl]
  have e1 : ((j : Int) + (l : Int) - (j : Int)).toNat = l := by omega
  rw [e1]
  refine compL_map (fun d => cD (crR (foldsB e a n).reverse (natD d))) _ [] (fun d hd => ⟨_, rfl, fun Q hq => ?_⟩) (by rw [← sz_ge, upto_len]; simp; omega) ?_
  · obtain ⟨k, hk, rfl⟩ := mem_upto hd
    walk_at "rd"
    have e2 : (j : Int) + (k : Int) = ((j + k : Nat) : Int) := by omega
    rw [e2] at hq ⊢
    exact lc (by omega) (by omega) hq
  · rw [List.nil_append]
    have e2 : (upto (j : Int) l).map (fun d => cD (crR (foldsB e a n).reverse (natD d))) = (rowB (foldsB e a n).reverse j l).map cD := by
      unfold upto rowB
      rw [List.map_map, List.map_map]
      refine List.map_congr_left fun k _ => ?_
      show cD (crR (foldsB e a n).reverse ((j : Int) + (k : Int)).toNat) = _
      have : ((j : Int) + (k : Int)).toNat = j + k := by omega
      rw [this]; rfl
    rw [e2]
    refine join_ok (by unfold rowB; rw [List.length_map, List.length_range]; omega) ?_
    refine row_ok h1 h0 h2 hn hj1 hj2 hl1 hl2 hl3 ?_
    walk_at "rd"
    by_cases hj3 : 1 < (j : Int)
    · refine ifP hj3 ?_
      have e3 : (j : Int) - 1 = ((j - 1 : Nat) : Int) := by omega
      rw [e3]
      refine valleys_ok h1 h0 h2 hn hj1 hj2 (valleys_ok h1 h0 h2 hn (by omega) (by omega) ?_)
      walk_at "rd"
      refine lc hj1 hj2 ?_
      simp only [cD]
      walk_at "rd"
      have e4 := valley_step (foldsB e a n).reverse j (by omega)
      rw [e4, str_v]
      simp only [w1_eq]
      exact ifP (by first | rfl | trivial) (skip _ _ _ _ _ _ hs2)
    · exact ifN hj3 (skip _ _ _ _ _ _ hs2)
theorem rd_law_great_right : ∀ ds G Q E, sp_law_great_right ds G Q E → r_law_great_right (endD Q E) (startD n_law_great_right ds) G := by
  intro ds G Q E h
  unfold sp_law_great_right at h
  split at h
  · rename_i p n
    obtain ⟨e, a, rfl, rfl, ⟨h1, h0, h2⟩, ⟨hn1, hn⟩, hp, q⟩ := h
    obtain ⟨n, rfl⟩ : ∃ j : Nat, n = (j : Int) := ⟨n.toNat, by omega⟩
    unfold r_law_great_right n_law_great_right
    unfold dLstM dApp
    walk_at "rd"
    have hlen := foldsB_len e a n
    have hpp : 4 ≤ 2 ^ n := by
      have : 2 ^ 2 ≤ 2 ^ n := Nat.pow_le_pow_right (by omega) (by omega)
      omega
    have hlt := p2lt (n := n) (by omega)
    have hhalf : 2 ^ n = 2 * 2 ^ (n - 1) := by
      obtain ⟨k, rfl⟩ : ∃ k, n = k + 1 := ⟨n - 1, by omega⟩
      rw [Nat.pow_succ, Nat.add_sub_cancel]; omega
    have ehalf : ((n : Int) - 1).toNat = n - 1 := by omega
    refine ⟨e, a, rfl, rfl, ⟨h1, h0, h2⟩, ⟨by omega, by omega⟩, ⟨by omega, by omega⟩, ?_⟩
    rw [Int.toNat_natCast]
    walk_at "rd"
    refine ⟨by decide, ⟨by omega, by omega⟩, ?_⟩
    rw [ehalf]
    refine ⟨hp, ⟨by omega, by omega⟩, fun r1 G1 a1 b1 s1 => ?_⟩
    walk_at "rd"
    refine ⟨by decide, .inl ⟨by decide, by decide⟩, s1.ok, ⟨by decide, by decide⟩, fun r2 G2 a2 b2 s2 => ?_⟩
    walk_at "rd"
    refine ⟨by decide, fun ql hql => ?_⟩
    have Z0 := shQ.mk0 (ds := [.int (1 + r1), .int ((2 ^ (n - 1) : Nat) : Int), .int (((2 ^ n : Nat) : Int) - 1), .int (3 * (((2 ^ (n - 1) : Nat) : Int) / 2)), .int (((2 ^ (n - 1) : Nat) : Int) - 1), .int (((2 ^ n : Nat) : Int) - 1 - r2)]) (s1.trans s2) hql
    have hGq : G ql = none := by rw [← (s1.trans s2).ne Z0.ne]; exact hql
    refine ⟨⟨_, Z0.at_⟩, Z0.ok, ⟨by omega, lt1040 (by omega)⟩, fun r3 G3 a3 b3 s3 => ?_⟩
    have Z1 := Z0.to s3
    refine ⟨⟨by omega, by omega⟩, Z1.ok, ⟨by decide, by decide⟩, fun r4 G4 a4 b4 s4 => ?_⟩
    have Z2 := Z1.to s4
    walk_at "rd"
    refine ⟨.inl ⟨by decide, by decide⟩, .inr (.inl ⟨by omega, by omega⟩), _, Z2.at_, by show 6 < sizeLine; decide, ?_⟩
    have Z3 := Z2.put (es := [.int (1 + r1), .int ((2 ^ (n - 1) : Nat) : Int), .int (((2 ^ n : Nat) : Int) - 1), .int (3 * (((2 ^ (n - 1) : Nat) : Int) / 2)), .int (((2 ^ (n - 1) : Nat) : Int) - 1), .int (((2 ^ n : Nat) : Int) - 1 - r2)] ++ [.int (((2 ^ r3.toNat : Nat) : Int) * (1 + 2 * r4))])
    refine ⟨⟨_, Z3.at_⟩, Z3.ok, ⟨by omega, by omega⟩, fun r5 G5 a5 b5 s5 => ?_⟩
    have Z4 := Z3.to s5
    walk_at "rd"
    refine ⟨_, Z4.at_, by show 7 < sizeLine; decide, ?_⟩
    have Z5 := Z4.put (es := ([.int (1 + r1), .int ((2 ^ (n - 1) : Nat) : Int), .int (((2 ^ n : Nat) : Int) - 1), .int (3 * (((2 ^ (n - 1) : Nat) : Int) / 2)), .int (((2 ^ (n - 1) : Nat) : Int) - 1), .int (((2 ^ n : Nat) : Int) - 1 - r2)] ++ [.int (((2 ^ r3.toNat : Nat) : Int) * (1 + 2 * r4))]) ++ [.int (1 + r5)])
    refine ⟨ql, _, rfl, Z5.at_, ?_⟩
    have hE := Z5.era hGq
    have key : ∀ {k : Nat} {G : Store} {Q : DQ} {E : DXK}, 0 < k → k < 2 ^ n → Q (.int (vlR (foldsB e a n).reverse k : Nat)) G → sp_valleys [recD e a, .int (n : Int), .int (k : Int)] G Q E := fun h3 h4 k => valleys_ok h1 h0 h2 (by omega) h3 h4 k
    walk_at "rd"
    refine lp_great h1 h0 h2 (by omega) (by omega) ?_ hE fun t x10 x11 x12 x13 G' hG' => ?_
    · intro d hd
      simp only [List.mem_cons, List.not_mem_nil, or_false, List.mem_append] at hd
      rcases hd with h | h | h | h | h | h | h | h <;> exact ⟨_, h⟩
    · walk_at "rd"
      have e1 : ((2 ^ (n - 1) : Nat) : Int) - 1 = ((2 ^ (n - 1) - 1 : Nat) : Int) := by omega
      have e2 : ((2 ^ n : Nat) : Int) - 1 = ((2 ^ n - 1 : Nat) : Int) := by omega
      rw [e1, e2]
      refine key (by omega) (by omega) (key (by omega) (by omega) ?_)
      have hne : ∃ f rest, foldsB e a n = f :: rest := by
        cases hf : foldsB e a n with
        | nil => rw [hf] at hlen; simp at hlen; omega
        | cons f rest => exact ⟨f, rest, rfl⟩
      obtain ⟨f, rest, hf⟩ := hne
      rw [hf] at hlen ⊢
      rw [List.length_cons] at hlen
      unfold foldsD
      walk_at "rd"
      refine ⟨_, atI0, ?_⟩
      rw [show fD f = .str (fS f) from rfl]
      walk_at "rd"
      rw [List.reverse_cons]
      have all := vlR_all rest.reverse f
      rw [List.length_reverse] at all
      have er : rest.length = n - 1 := by omega
      rw [er] at all
      have er2 : n - 1 + 1 = n := by omega
      rw [er2] at all
      rw [all]
      have le := vlR_le (rest.reverse ++ [f]) (2 ^ (n - 1) - 1)
      have fin : (if fS f = Str.ofString "over" then (1 : Int) else 0) = if f = true then 1 else 0 := by
        cases f
        · exact (if_neg (fun z => over_ne z.symm)).trans (if_neg Bool.false_ne_true).symm
        · exact (if_pos rfl).trans (if_pos rfl).symm
      rw [fin]
      generalize vlR (rest.reverse ++ [f]) (2 ^ (n - 1) - 1) = v at le
      have : decide (((2 ^ (n - 1) - 1 + (if f = true then 1 else 0) : Nat) : Int) - (v : Int) = ((2 ^ (n - 1) - 1 : Nat) : Int) - (v : Int) + (if f = true then 1 else 0)) = true := by
        apply decide_eq_true
        cases f
        · simp
        · simp; omega
      rw [this]
      exact q _ hG'
  · exact h.elim
end FD

set_option Elab.async false
set_option linter.all false
set_option maxRecDepth 100000
set_option maxHeartbeats 4000000
set_option autoImplicit false
/-! The words for errors. -/
namespace FD
open PySem PySem.Spec PyProof.Rows L2 HotX L2H
local macro_rules | `(tactic| walk_at "rd") => `(tactic| simp only [startD, wipeD, dVar, dC, dOp, dUn, dCB, dCons, dNil, dRet, dSeq, dNext, dPass, dDrop, dIfS_eq, dAsg, dgName, dgTupN, dgCons, dgNil, dPar, dB, dAnd_eq, dOr_eq, dNot, dAndV_eq, dOrV_eq, dNotV, dIf_eq, dTup, dLst, dNeg, dChain_eq, dCall, dRaise, dImm, dMut, dYes, dRev, dM1, dSl, dNone, dPart, andK_bl, ifnot,
  gAdd, gSub, gMul, gDiv, gMod, gPow, gEq, gNe, gCmpI, gIx, gSl, gLen, gInt, gAbs, gMax, gMin, gTuple, gList, gIsi, gIn, gIsN, gNotN, isNon, gCount, gAddM, gIs, gSplit, kbs, eqb_int, eqb_str, eqb_bl, cmp_int, cmp_str, cmp_bl,
  List.map_cons, List.map_nil, List.replicate, List.length_cons, List.length_nil, List.cons_append, List.nil_append, List.append_nil, Bool.not_true, Bool.not_false,
  List.getElem?_cons_zero, List.getElem?_cons_succ, List.set_cons_zero, List.set_cons_succ, Option.some.injEq, exists_eq_left', exists_eq_left, true_and, and_true, Nat.reduceAdd, Nat.reduceSub, tyN, reduceCtorEq, false_and, exists_false, decide_eq_true_eq, if_true, if_false, Bool.false_eq_true])
def errNames : List Str := ["InvalidRecipe", "InvalidNumber", "InvalidPlace", "InvalidWord", "InvalidSights", "InvalidStep", "InvalidCorner", "InvalidText", "InvalidFold", "Impossible", "Unlike", "Flat", "NothingToUndo", "TooMany", "Failed"]
def errLabels : List Str := ["recipe", "number", "place", "word", "sights", "step", "corner", "text", "fold", "none", "unlike", "flat", "undo", "many", "failed", "value"]
def allLabels : Str := "recipe number place word sights step corner text fold none unlike flat undo many failed value"
theorem split_labels : Txt.split allLabels " " = errLabels := by
  have e : allLabels = SX.S allLabels.cps.toList := (SX.S_tl _).symm
  have e2 : (Str.ofString " ") = SX.S [32] := by decide +kernel
  rw [e, e2, SX.split_S (by decide) (by decide)]
  decide +kernel
def selB : List Str → List Bool → List Str
  | x :: xs, b :: bs => if b then x :: selB xs bs else selB xs bs
  | _, _ => []
/-- the word for an error -/
def wordOf (nm : Str) : Str := Txt.join " " (selB errLabels (errNames.map (fun n => decide (n = nm)) ++ [true]))
theorem selB_sum : ∀ (ls : List Str) (bs : List Bool), ((selB ls bs).map (·.length)).sum ≤ (ls.map (·.length)).sum
  | [], _ => Nat.zero_le _
  | _ :: _, [] => Nat.zero_le _
  | x :: xs, b :: bs => by
    have := selB_sum xs bs
    unfold selB
    cases b <;> simp <;> omega
theorem selB_len : ∀ (ls : List Str) (bs : List Bool), (selB ls bs).length ≤ ls.length
  | [], _ => Nat.zero_le _
  | _ :: _, [] => Nat.zero_le _
  | x :: xs, b :: bs => by
    have := selB_len xs bs
    unfold selB
    cases b <;> simp <;> omega
theorem names_loop {x0 x1 x2 : Option D} {Z : List D → Store → Prop} {G : Store} : ∀ (ls : List Str) (bs : List Bool) (acc : List Str), acc.length + ls.length ≤ 1000 → Z ((acc ++ selB ls bs).map D.str) G →
    compL (bT 3 4) (dB (dVar 4)) (dVar 3) [x0, x1, x2, none, none] Z (zips (ls.map D.str) (bs.map D.bl)) (acc.map D.str) G
  | [], bs, acc, _, hz => by
    have e : selB [] bs = [] := rfl
    rw [e, List.append_nil] at hz
    exact hz
  | x :: xs, [], acc, _, hz => by
    have e : selB (x :: xs) [] = [] := rfl
    rw [e, List.append_nil] at hz
    exact hz
  | x :: xs, b :: bs, acc, hl, hz => by
    rw [List.length_cons] at hl
    rw [List.map_cons, List.map_cons]
    unfold zips compL bT
    walk_at "rd"
    unfold selB at hz
    cases b with
    | true =>
      refine ⟨by rw [List.length_map]; exact le_sz (by omega), ?_⟩
      have e : acc.map D.str ++ [D.str x] = (acc ++ [x]).map D.str := by simp
      rw [e]
      refine names_loop xs bs (acc ++ [x]) (by simp; omega) ?_
      rw [List.append_assoc]; exact hz
    | false => exact names_loop xs bs acc (by omega) hz
def r_law_names (cs : Str → Addr) (isB : V → Option Bool) (ea : Addr) : DS := (dSeq (dAsg (dLst (dCons (dCB (gIs isB ea) (dCons (dVar 0) (dCons (dC (.obj (.ref (cs "InvalidRecipe")))) dNil))) (dCons (dCB (gIs isB ea) (dCons (dVar 0) (dCons (dC (.obj (.ref (cs "InvalidNumber")))) dNil))) (dCons (dCB (gIs isB ea) (dCons (dVar 0) (dCons (dC (.obj (.ref (cs "InvalidPlace")))) dNil))) dNil)))) (dgName 1))
  (dSeq (dAsg (dOp gAdd (dVar 1) (dLst (dCons (dCB (gIs isB ea) (dCons (dVar 0) (dCons (dC (.obj (.ref (cs "InvalidWord")))) dNil))) (dCons (dCB (gIs isB ea) (dCons (dVar 0) (dCons (dC (.obj (.ref (cs "InvalidSights")))) dNil))) (dCons (dCB (gIs isB ea) (dCons (dVar 0) (dCons (dC (.obj (.ref (cs "InvalidStep")))) dNil))) dNil))))) (dgName 1))
  (dSeq (dAsg (dOp gAdd (dVar 1) (dLst (dCons (dCB (gIs isB ea) (dCons (dVar 0) (dCons (dC (.obj (.ref (cs "InvalidCorner")))) dNil))) (dCons (dCB (gIs isB ea) (dCons (dVar 0) (dCons (dC (.obj (.ref (cs "InvalidText")))) dNil))) (dCons (dCB (gIs isB ea) (dCons (dVar 0) (dCons (dC (.obj (.ref (cs "InvalidFold")))) dNil))) dNil))))) (dgName 1))
  (dSeq (dAsg (dOp gAdd (dVar 1) (dLst (dCons (dCB (gIs isB ea) (dCons (dVar 0) (dCons (dC (.obj (.ref (cs "Impossible")))) dNil))) (dCons (dCB (gIs isB ea) (dCons (dVar 0) (dCons (dC (.obj (.ref (cs "Unlike")))) dNil))) (dCons (dCB (gIs isB ea) (dCons (dVar 0) (dCons (dC (.obj (.ref (cs "Flat")))) dNil))) dNil))))) (dgName 1))
  (dSeq (dAsg (dOp gAddM (dVar 1) (dLst (dCons (dCB (gIs isB ea) (dCons (dVar 0) (dCons (dC (.obj (.ref (cs "NothingToUndo")))) dNil))) (dCons (dCB (gIs isB ea) (dCons (dVar 0) (dCons (dC (.obj (.ref (cs "TooMany")))) dNil))) (dCons (dCB (gIs isB ea) (dCons (dVar 0) (dCons (dC (.obj (.ref (cs "Failed")))) dNil))) dNil))))) (dgName 1))
  (dSeq (dDrop (dApp (dVar 1) (dCB (gIs isB ea) (dCons (dVar 0) (dCons (dC (.obj (.ty "ValueError"))) dNil)))))
  (dSeq (dAsg (dC (.str "recipe number place word sights step corner text fold none unlike flat undo many failed value")) (dgName 2))
  (dFreeze 1 (dRet (dM1 gJoin (dC (.str " ")) (dImm (dComp (dItZh (dCons (dM1 gSplit (dVar 2) (dC (.str " "))) (dCons (dVar 1) dNil))) (bT 3 4) [3, 4] (dB (dVar 4)) (dVar 3)))))))))))))
def n_law_names : List Str := ["_law_error", "_law_some", "_law_labels", "_law_label", "_law_good"]
theorem rd_law_names {cs : Str → Addr} {isB : V → Option Bool} {ea : Addr} {nm : Str} (h : ∀ n ∈ errNames, isB (.ref (cs n)) = some (decide (n = nm))) (hv : isB (.ty "ValueError") = some true) : ∀ (G : Store) (Q : DQ) (E : DXK), Q (.str (wordOf nm)) G → r_law_names cs isB ea (endD Q E) (startD n_law_names [.obj (.ref ea)]) G := by
  intro G Q E q
  unfold r_law_names n_law_names
  unfold dApp dComp dItZh
  walk_at "rd"
  have M : ∀ n, n ∈ errNames → isB (.ref (cs n)) = some (decide (n = nm)) := h
  refine ⟨_, M _ (by decide), _, M _ (by decide), _, M _ (by decide), by decide, _, M _ (by decide), _, M _ (by decide), _, M _ (by decide), by decide, by decide, _, M _ (by decide), _, M _ (by decide), _, M _ (by decide), by decide, by decide,
    _, M _ (by decide), _, M _ (by decide), _, M _ (by decide), by decide, by decide, _, M _ (by decide), _, M _ (by decide), _, M _ (by decide), by decide, by decide, fun p hp => ⟨⟨_, put_same⟩, _, hv, _, put_same, by show 15 < sizeLine; decide, ?_⟩⟩
  rw [put_put]
  refine ⟨p, _, rfl, put_same, ?_⟩
  rw [put_era hp]
  walk_at "rd"
  have e1 : Txt.split (Str.ofString "recipe number place word sights step corner text fold none unlike flat undo many failed value") (Str.ofString " ") = errLabels := split_labels
  rw [e1]
  refine ⟨⟨by decide +kernel, by decide +kernel⟩, by decide, ?_⟩
  refine names_loop errLabels (errNames.map (fun n => decide (n = nm)) ++ [true]) [] (by decide) ?_
  rw [List.nil_append]
  refine ⟨_, rfl, ?_, q⟩
  have a := selB_sum errLabels (errNames.map (fun n => decide (n = nm)) ++ [true])
  have b := selB_len errLabels (errNames.map (fun n => decide (n = nm)) ++ [true])
  have c : (errLabels.map (·.length)).sum ≤ 200 := by decide +kernel
  have d : (Str.ofString " ").length = 1 := by decide +kernel
  have l : errLabels.length = 16 := rfl
  rw [d]; omega
end FD

set_option Elab.async false
set_option linter.all false
set_option maxRecDepth 100000
set_option maxHeartbeats 4000000
set_option autoImplicit false
/-! The D layer: a call that is tried in a lambda, the word for its error. -/
namespace FD
open PySem PySem.Spec PyProof.Rows L2 HotX L2H LamX
section
variable {K : PySem.W.Frag} {T : Tb} {M : Hid} {G : Store} {H H1 : Hp}
theorem ext_of_N (e : ExtN H H1) (sr : SRel K T M G H) : Ext (hide M G H) (hide M G H1) := fun a o h n => by
  obtain ⟨h1, h2, h3⟩ := hide_sub h
  rw [hide_none h3 h2]; exact e a o h1 n
theorem hid_N (e : ExtN H H1) (sr : SRel K T M G H) {a : Addr} (m : M a = true) : H1 a = H a := by
  obtain ⟨xs, hx⟩ := (sr.hid a m).1
  rw [hx]; exact e a _ hx (fun ps z => by cases z)
/-- a code object is in sight -/
theorem code_seen (e : ExtN H H1) (sr : SRel K T M G H) {c : Addr} {q : Str} (h : H1 c = some (CodeO c q)) : M c = false ∧ G c = none := by
  constructor
  · cases m : M c with
    | false => rfl
    | true =>
      obtain ⟨xs, hx⟩ := (sr.hid c m).1
      rw [hid_N e sr m, hx] at h
      unfold CodeO at h; cases h
  · cases g : G c with
    | none => rfl
    | some mo =>
      obtain ⟨o, ho, r⟩ := sr.sto c mo g
      cases mo with
      | raw u => exact False.elim r
      | lst ds =>
        cases o with
        | lst vs =>
          rw [e c _ ho (fun ps z => by cases z)] at h
          unfold CodeO at h; cases h
        | _ => exact False.elim r
theorem SRel.extN (e : ExtN H H1) (sr : SRel K T M G H) (tb : Tabs T H1) : SRel K T M G H1 := by
  refine ⟨fun a m g => ?_, fun p hp => ?_, fun a m => ⟨?_, (sr.hid a m).2⟩⟩
  · obtain ⟨o, ho, r⟩ := sr.sto a m g
    refine ⟨o, e a o ho (fun ps z => ?_), r.mono (ext_of_N e sr)⟩
    cases m with
    | raw u => exact False.elim r
    | lst ds => subst z; exact False.elim r
  · obtain ⟨ps, h1, h2, h3⟩ := tb p hp
    obtain ⟨ps0, g1, _⟩ := sr.tab p hp
    obtain ⟨_, g2, g3⟩ := hide_sub g1
    refine ⟨ps, by rw [hide_none g3 g2]; exact h1, h2, fun pos cv hc => ?_⟩
    obtain ⟨c, e1, e2⟩ := h3 pos cv hc
    obtain ⟨s1, s2⟩ := code_seen e sr e2
    exact ⟨c, e1, by rw [hide_none s1 s2]; exact e2⟩
  · obtain ⟨xs, hx⟩ := (sr.hid a m).1
    exact ⟨xs, by rw [hid_N e sr m]; exact hx⟩
theorem Grow.extN {k : Kx} (e : ExtN H H1) (sr : SRel k.K k.T M G H) (tb : Tabs k.T H1) : Grow k M G H G H1 := ⟨sr.extN e tb, ext_of_N e sr, fun a m => hid_N e sr m⟩
theorem SRel.tabs (sr : SRel K T M G H) : Tabs T H := sr.tab.ext fun b o h => (hide_sub h).1
end
/-- the word that is told for an error of the class nm -/
def spN (k : Kx) (nm : Str) (H : Hp) (Q : VK) : Prop := ∃ (M : Hid) (G : Store), SRel k.K k.T M G H ∧ ∀ H', Grow k M G H G H' → Q (.str (wordOf nm)) H'
/-- what the def _law_word makes of the lambda's reading; es: the errors that may come -/
def TTword (k : Kx) (cs : Str → Addr) (es : List Str) : (XK → Hp → VK → Prop) → Hp → VK → Prop := fun tl H Q =>
  tl (fun cls d H' => ∃ nm, nm ∈ es ∧ cls = .ref (cs nm) ∧ d = none ∧ spN k nm H' Q) H (fun _ H' => Q (.str "") H')
/-- the word for what a call ends with -/
def dLam (es : List Str) (f : DE) : DE := fun ρ G Q _ => f ρ G (fun _ G1 => Q (.str "") G1) (fun n G1 => n ∈ es ∧ Q (.str (wordOf n)) G1)
theorem tE_lam {C : Dx} {cs : Str → Addr} {es : List Str} {f : DE} (hcs : ∀ n ∈ es, C.X.mg n = some (.ref (cs n))) : ∀ σ H P, tE C.k (dLam es f) σ H P → tLam C.T (TTword ⟨C.X.K, C.X.mg, C.T, fun _ _ _ => False⟩ cs es) (fun E => tE ⟨C.X.K, C.X.mg, C.T, E⟩ f) σ H P := by
  rintro σ H P ⟨M, ρ, G, Q, E, er, sr, ew, h, k⟩
  refine ⟨sr.tabs, fun H1 eN T1 => ?_⟩
  have g1 : Grow C.k M G H G H1 := Grow.extN eN sr T1
  refine ⟨M, ρ, G, _, _, er.mono g1.x, g1.s, fun n c G' H' hm g2 e2 => ?_, h, fun v H' d G' g2 r q => k _ _ _ _ (g1.trans ⟨g2.s, g2.x, g2.k⟩) (.str _) q⟩
  refine ⟨n, e2.1, ?_, rfl, M, G', g2.s, fun H'' g3 => k _ _ _ _ ((g1.trans ⟨g2.s, g2.x, g2.k⟩).trans ⟨g3.s, g3.x, g3.k⟩) (.str _) e2.2⟩
  have := hcs n e2.1
  have hm : C.X.mg n = some (.ref c) := hm
  rw [hm] at this
  rw [Option.some.inj this]
/-- the context of the lambda's body -/
abbrev Dx.lam (C : Dx) {A : Around} {outer : List Env} {s : Shared} {H : Hp} {E : XK} {scope : Scope} {f c' : Addr} {k : Nat} (hr : Room k (A.deeper (lamEnv C.X scope s.heap.objs.size f c'))) : Dx where
  X := lamN C.X A outer s H E scope f c'
  T := C.T
  W := E
  hu := hr.units
  tk := L2N.takes_of rfl rfl rfl rfl
  po := passes_of rfl
/-- the def _law_word as it stands: try: a() / except x as e: return y(e), then return '' -/
theorem word_gives {X : Cx} {Ng : List Str} {x a ex y q : Str} {e : Str} {sg : Scope} {g : Addr} {cdg : Value} {k j : Nat} {T : Tb} {cs : Str → Addr} {CS fy : Addr} {fdy : FuncData} {psy : List Str} {es : List Str} {p1 p2 p3 p4 p5 p6 p7 p8 p9 p10 p11 p12 : Pos} {n0 : Nat}
    (hN2 : Ng = [a, e]) (hne : a ≠ e) (hla : Vis sg a) (hle : sg.names.lookup e = some .local) (hgx : sg.names.lookup ex = some .globalImplicit) (hgy : sg.names.lookup y = some .globalImplicit) (hmx : X.mg ex = some (.ref CS)) (hmy : X.mg y = some (.ref fy)) (hky : PySem.W.keepIn X.K (.ref fy) = true) (hby : Binds X.K fdy psy []) (hpy : psy.length = 1)
    (hF : ∀ nm ∈ es, FnE X.prog X.w X.K X.mg X.base j fy fdy psy (cs nm) (spN ⟨X.K, X.mg, T, fun _ _ _ => False⟩ nm)) (hex : ∀ nm ∈ es, PySem.W.exmOne X.K (.ref (cs nm)) (.ref CS) = some true) (hjk : j ≤ k + 1)
    (hdx : (ex == ("__debug__" : Str)) = false) (hda : (a == ("__debug__" : Str)) = false) (hca : (a == ("__classdict__" : Str)) = false) (hde : (e == ("__debug__" : Str)) = false) (hce : (e == ("__classdict__" : Str)) = false) (hdy : (y == ("__debug__" : Str)) = false) :
    GivesN X Ng x sg g cdg [.Try [.Expr (.Call (.Name a p1) [] [] p2) p3] [.ExceptHandler (some (.Name ex p4)) (some e) [.Return (some (.Call (.Name y p5) [.Name e p6] [] p7)) p8] p9] [] [] p10, .Return (some (.Constant (.str "") n0 p11)) p12] a q k (TTword ⟨X.K, X.mg, T, fun _ _ _ => False⟩ cs es) := by
  subst hN2
  intro f c' s H Q tl hr act hc h
  have hnd : ([a, e] : List Str).Nodup := by simp [hne]
  have hgl : Gl (cxOf C8.CX0 X.prog X.w X.K X.mg X.base [a, e] x sg g cdg X.A X.stack s H C8.E0).nox ex := hgx
  refine ⟨_, pss_cons (L2N.ps_try_as (X := (cxOf C8.CX0 X.prog X.w X.K X.mg X.base [a, e] x sg g cdg X.A X.stack s H C8.E0).nox) (c := .ref CS) (i := 1)
      (tb := fun W D σ H => ∃ Ech : XK, (∀ cls d σ' H', Ech cls d H' → W cls d σ' H') ∧ σ[0]? = some (some (.ref f)) ∧ H c' = some (CodeO c' q) ∧ tl Ech H fun _ H' => D.nx σ H')
      (ts := fun ea cls d D σ H => (∃ σ0 : L2.St, σ = σ0.set 1 (some (.ref ea))) ∧ ∃ nm, nm ∈ es ∧ cls = .ref (cs nm) ∧ d = none ∧ spN ⟨X.K, X.mg, T, fun _ _ _ => False⟩ nm H D.rt)
      (Wout := fun _ _ _ _ => False)
      rfl rfl hnd rfl hle ⟨hgl, hdx, .inl hmx⟩ takes0N (fun W pn xe tk _ => ?_) (fun ea oe cls d pn hz hf => ?_)) (pss_one (ps_ret pe_str)), ?_⟩
  · refine ⟨fun pins s' σ H' D I ⟨Ech, hW, h1, h2, h3⟩ => ?_⟩
    exact (pss_one (ps_expr (pos := p3) (act W pn xe Ech p1 p2 tk hW))).run pins s' σ H' D I ⟨h1, h2, h3⟩
  · refine ⟨fun pins s' σ H' D I ⟨⟨σ0, eσ⟩, nm, hm, ec, ed, hs⟩ => ?_⟩
    subst ec ed
    have hl : σ.length = 2 := I.len
    have h1 : σ[1]? = some (some (.ref ea)) := by
      rw [eσ, List.getElem?_set_self]
      rw [eσ, List.length_set] at hl; omega
    have rr : RoomH j (X.A.deeper (envOfC x sg s.heap.objs.size g cdg)) := (roomH_of hr).mono hjk
    exact (pss_one (ps_ret (pos := p8) (pe_callE (X := (cxOf C8.CX0 X.prog X.w X.K X.mg X.base [a, e] x sg g cdg X.A X.stack s H C8.E0).nox) (q := p5) (p := p6) (pos := p7) (i := 1) (hF nm hm) hpy rr hz hf hgy hmy hky hby rfl (.inl hle) hde hce hdy))).run pins s' σ H' D I ⟨h1, hs⟩
  · refine ⟨fun cls d H' => ∃ nm, nm ∈ es ∧ cls = .ref (cs nm) ∧ d = none ∧ spN ⟨X.K, X.mg, T, fun _ _ _ => False⟩ nm H' Q, fun cls d σ' H' ⟨nm, hm, ec, ed, hs⟩ => ⟨true, by rw [ec]; exact hex nm hm, fun _ ea _ => ⟨⟨σ', rfl⟩, nm, hm, ec, ed, hs⟩, fun z => by cases z⟩, rfl, hc, h⟩
end FD

set_option Elab.async false
set_option linter.all false
set_option maxRecDepth 100000
set_option maxHeartbeats 4000000
set_option autoImplicit false
/-! The D layer: defs whose code object is named, lambdas, a def held by a local name. -/
namespace FD
open PySem PySem.Spec PyProof.Rows L2 HotX L2H LamX
/-- the module's x is the def st, its code object at c -/
def FnAtC (K : PySem.W.Frag) (mg : Str → Option Value) (x : Str) (st : Stmt) (ps : List Str) (c : Addr) : Prop :=
  ∃ (f : Addr) (oc : Value) (od : Option Addr) (dV kV doc pm : Value) (an : Option Addr) (ct : Value) (osl : Array (Option Value)), K.lookup f = some ⟨oc, od, .func (PySem.W.fnOf x x (defArgs st) (defBody st) (defScope st) dV kV doc pm an (.ref c) ct), osl⟩ ∧
    PySem.W.codeIn K (.ref c) x = true ∧ PySem.W.keepIn K (.ref f) = true ∧ mg x = some (.ref f) ∧ Binds K (PySem.W.fnOf x x (defArgs st) (defBody st) (defScope st) dV kV doc pm an (.ref c) ct) ps []
section
variable {P : Program} {w : World} {K : PySem.W.Frag} {mg : Str → Option Value} {base : Heap} {T : Tb}
theorem fnok_of {x : Str} {st : Stmt} {c f : Addr} {N ps : List Str} {k : Nat} {dsp : DSp} {fs : DS} {oc : Value} {od : Option Addr} {dV kV doc pm : Value} {an : Option Addr} {ct : Value} {osl : Array (Option Value)} (lk : K.lookup f = some ⟨oc, od, .func (PySem.W.fnOf x x (defArgs st) (defBody st) (defScope st) dV kV doc pm an (.ref c) ct), osl⟩) (hcd : PySem.W.codeIn K (.ref c) x = true) (S : FnScope N ps (defScope st))
    (len : ∀ {ds G Q E}, dsp ds G Q E → ds.length = ps.length)
    (body : ∀ (A : Around) (outer : List Env) (s : Shared) (H : Hp) (E : XK) (hr : Room k (A.deeper (envOfC x (defScope st) s.heap.objs.size f (.ref c)))), PDSs (bodyD (P := P) (w := w) (K := K) (mg := mg) (base := base) T (N := N) (outer := outer) (H := H) (E := E) hr) (defBody st) fs)
    (rd : ∀ ds G Q E, dsp ds G Q E → fs { nx := fun _ G => Q .non G, rt := Q, er := E } (startD N ds) G) : FnOk P w K mg base (L2N.CX P w) (k + 1) f (PySem.W.fnOf x x (defArgs st) (defBody st) (defScope st) dV kV doc pm an (.ref c) ct) ps (spD ⟨K, mg, T, fun _ _ _ => False⟩ dsp) := by
  refine fn_of lk hcd S (fun vs H Q E h => ?_) (fun A outer s H vs Q E hr hsp => ⟨_, body A outer s H E hr, ?_⟩)
  · obtain ⟨M, ds, G, Q', E', r, _, _, h, _⟩ := h
    rw [r.length]; exact len h
  · obtain ⟨M, ds, G, Q', E', r, sr, ew, h, k⟩ := hsp
    refine ⟨M, startD N ds, G, _, start_rel r, sr, fun n c G1 H1 hm g e => ew n c G1 H1 hm ⟨g.s, g.x, g.k⟩ e, rd ds G Q' E' h, fun ρ' σ' G' H' g er' q => k _ _ _ _ ⟨g.s, g.x, g.k⟩ .non q, fun v H' d G' g r' q => k _ _ _ _ ⟨g.s, g.x, g.k⟩ r' q, fun _ _ _ _ _ _ z => z.elim, fun _ _ _ _ _ _ z => z.elim⟩
theorem def_ofC {x : Str} {st : Stmt} {c : Addr} {N ps : List Str} {k : Nat} {dsp : DSp} {fs : DS} (F : FnAtC K mg x st ps c) (S : FnScope N ps (defScope st))
    (len : ∀ {ds G Q E}, dsp ds G Q E → ds.length = ps.length)
    (body : ∀ (f : Addr) (A : Around) (outer : List Env) (s : Shared) (H : Hp) (E : XK) (hr : Room k (A.deeper (envOfC x (defScope st) s.heap.objs.size f (.ref c)))), PDSs (bodyD (P := P) (w := w) (K := K) (mg := mg) (base := base) T (N := N) (outer := outer) (H := H) (E := E) hr) (defBody st) fs)
    (rd : ∀ ds G Q E, dsp ds G Q E → fs { nx := fun _ G => Q .non G, rt := Q, er := E } (startD N ds) G) : Def P w K mg base T (k + 1) x dsp := by
  obtain ⟨f, oc, od, dV, kV, doc, pm, an, ct, osl, lk, hcd, kp, gx, bnd⟩ := F
  exact ⟨f, _, ps, gx, kp, bnd, fnok_of lk hcd S len (body f) rd⟩
/-- a promise that is never asked for -/
theorem def_zero {x : Str} {st : Stmt} {c : Addr} {ps : List Str} {k : Nat} {dsp : DSp} (F : FnAtC K mg x st ps c) (h0 : ∀ ds G Q E, dsp ds G Q E → False) : Def P w K mg base T k x dsp := by
  obtain ⟨f, oc, od, dV, kV, doc, pm, an, ct, osl, lk, hcd, kp, gx, bnd⟩ := F
  refine ⟨f, _, ps, gx, kp, bnd, ⟨fun vs H Q E h => ?_, fun A outer s H args us vs Q E hr e0 hb r h => ?_⟩⟩
  · obtain ⟨M, ds, G, Q', E', r, _, _, h, _⟩ := h
    exact (h0 _ _ _ _ h).elim
  · obtain ⟨M, ds, G, Q', E', r, _, _, h, _⟩ := h
    exact (h0 _ _ _ _ h).elim
end
section
variable {C : Dx} {pos : Pos} {a b e : Expr} {fa fe : DE} {es : List Expr} {fs : DA}
/-- a def that a local name holds: S tells the promise by the value -/
def dCallL (i : Nat) (S : V → Option DSp) (fs : DA) : DE := fun ρ G Q E => ∃ v sp, ρ[i]? = some (some (.obj v)) ∧ S v = some sp ∧ fs ρ G (fun ds G1 => sp ds G1 Q E) E
theorem pd_callL {i j k : Nat} {S : V → Option DSp} {x : Str} {p : Pos} (A : ∀ v sp, S v = some sp → ∃ (ad : Addr) (y : Str), v = .ref ad ∧ C.X.mg y = some (.ref ad) ∧ DefC C j y sp) (hr : Room k C.X.A) (ha : PDA C (a :: es) fs) (hjk : j ≤ k := by decide) (hN : C.X.N[i]? = some x := by rfl)
    (hv : Vis C.X.env.scope x := by first | exact Or.inl rfl | exact Or.inr (Or.inl rfl) | exact Or.inr (Or.inr rfl)) (hdb : (x == ("__debug__" : Str)) = false := by decide) (hcd : (x == ("__classdict__" : Str)) = false := by decide)
    (he : starEach (a :: es) C.X.env = (false, eval a C.X.env) :: starEach es C.X.env := by rfl) (hpl : (backTo pos (starEach es C.X.env)).any (·.1) = false := by rfl) : PDE C (.Call (.Name x p) (a :: es) [] pos) (dCallL i S fs) := by
  refine ⟨fun pins s σ H P I h => ?_⟩
  obtain ⟨M, ρ, G, Q, E, er, sr, ew, ⟨v, sp, h1, h2, h3⟩, k'⟩ := h
  obtain ⟨ad, y, rfl, hm, D⟩ := A v sp h2
  obtain ⟨g, fd, ps, e1, e2, e3, e4⟩ := D.mono hjk
  obtain rfl : ad = g := by
    rw [hm] at e1
    exact Value.ref.inj (Option.some.inj e1)
  obtain ⟨w, hw, r⟩ := er.at_ i _ h1
  cases r
  refine (pe_callL (i := i) (f := ad) (dvs := []) (E := fun cls d H => C.W cls d H) e4 hr hN hv e2 e3 .nil (L2N.passes_call C.tk fun _ _ _ _ z => z) ha hdb hcd he hpl).run pins s σ H P I ⟨hw, ?_⟩
  refine ⟨M, ρ, G, _, E, er, sr, ew, h3, fun vs H1 ds G1 g1 r1 q1 => ?_⟩
  show spD _ sp (vs ++ []) H1 P _
  rw [List.append_nil]
  exact ⟨M, ds, G1, Q, E, r1, g1.s, fun n c G' H' hm g e => ew n c G' H' hm (g1.trans ⟨g.s, g.x, g.k⟩) e, q1, fun v H2 d G2 g2 r2 q2 => k' v H2 d G2 (g1.trans ⟨g2.s, g2.x, g2.k⟩) r2 q2⟩
/-- what the words need: the def that tells them, the def that tries, the classes -/
structure WordOk (P : Program) (w : World) (K : PySem.W.Frag) (mg : Str → Option Value) (base : Heap) (T : Tb) (stw : Stmt) (cs : Str → Addr) (es : List Str) (j : Nat) : Prop where
  fn : ∃ cw, FnAtC K mg "_law_word" stw ["_law_call"] cw
  ny : ∃ (fy : Addr) (fdy : FuncData) (psy : List Str), mg "_law_names" = some (.ref fy) ∧ PySem.W.keepIn K (.ref fy) = true ∧ Binds K fdy psy [] ∧ psy.length = 1 ∧ ∀ nm ∈ es, FnE P w K mg base j fy fdy psy (cs nm) (spN ⟨K, mg, T, fun _ _ _ => False⟩ nm)
  hcs : ∀ nm ∈ es, mg nm = some (.ref (cs nm))
  hse : mg "StripError" = some (.ref (cs "StripError"))
  hex : ∀ nm ∈ es, PySem.W.exmOne K (.ref (cs nm)) (.ref (cs "StripError")) = some true
/-- how the def _law_word looks -/
structure WordSt (stw : Stmt) : Prop where
  body : ∃ (p1 p2 p3 p4 p5 p6 p7 p8 p9 p10 p11 p12 : Pos) (n0 : Nat), defBody stw = [.Try [.Expr (.Call (.Name "_law_call" p1) [] [] p2) p3] [.ExceptHandler (some (.Name "StripError" p4)) (some "_law_error") [.Return (some (.Call (.Name "_law_names" p5) [.Name "_law_error" p6] [] p7)) p8] p9] [] [] p10, .Return (some (.Constant (.str "") n0 p11)) p12]
  sc : FnScope ["_law_call", "_law_error"] ["_law_call"] (defScope stw)
  v1 : Vis (defScope stw) "_law_call"
  v2 : (defScope stw).names.lookup ("_law_error" : Str) = some NameKind.local
  v3 : (defScope stw).names.lookup ("StripError" : Str) = some NameKind.globalImplicit
  v4 : (defScope stw).names.lookup ("_law_names" : Str) = some NameKind.globalImplicit
theorem pd_lam {stw : Stmt} {cs : Str → Addr} {ers : List Str} {j k : Nat} {c Pt : Addr} {f : DE} {params : Arguments} {body : Expr} {scope : Scope} {p lpos : Pos} (W : WordOk C.X.prog C.X.w C.X.K C.X.mg C.X.base C.T stw cs ers j) (S : WordSt stw) (hr : Room (k + 2) C.X.A) (TB : TabB C.X.base C.X.mg c Pt) (hmT : (Pt, C.X.env.qual ++ "<lambda>") ∈ C.T) (hu : ∀ p ∈ C.T, p.1 = Pt → p.2 = C.X.env.qual ++ "<lambda>")
    (L : LamS C.X.env.scope scope) (hbody : ∀ (A : Around) (outer : List Env) (s : Shared) (H : Hp) (E : XK) (f' c' : Addr) (hr : Room k (A.deeper (lamEnv C.X scope s.heap.objs.size f' c'))), PDE (C.lam (outer := outer) (H := H) (E := E) (f := f') (c' := c') hr) body f)
    (hjk : j ≤ k + 1 := by decide) (hg : Gl C.X "_law_word" := by rfl) (hcode : C.X.env.code = .ref c := by rfl) (hdef : defaultsOf params C.X.env = ([], []) := by rfl)
    (hbind : ∀ (q : Str) (cl : List (Str × Addr)) (pm cv ctv : Value), bindArgs (PySem.W.kla_fn "<lambda>" q params body scope cl pm cv ctv) ⟨[], []⟩ = pure [] := by intros; rfl) :
    PDE C (.Call (.Name "_law_word" p) [.Lambda params body scope lpos] [] pos) (dLam ers f) := by
  obtain ⟨cw, g, oc, od, dV, kV, doc, pm, an, ct, osl, lk, hcd, kp, gx, bnd⟩ := W.fn
  obtain ⟨fy, fdy, psy, y1, y2, y3, y4, y5⟩ := W.ny
  obtain ⟨p1, p2, p3, p4, p5, p6, p7, p8, p9, p10, p11, p12, n0, eb⟩ := S.body
  have G := word_gives (X := C.X) (x := "_law_word") (a := "_law_call") (e := "_law_error") (ex := "StripError") (y := "_law_names") (q := C.X.env.qual ++ "<lambda>") (sg := defScope stw) (g := g) (cdg := .ref cw) (k := k) (T := C.T) (cs := cs) (es := ers) (p1 := p1) (p2 := p2) (p3 := p3) (p4 := p4) (p5 := p5) (p6 := p6) (p7 := p7) (p8 := p8) (p9 := p9) (p10 := p10) (p11 := p11) (p12 := p12) (n0 := n0)
    rfl (by decide) S.v1 S.v2 S.v3 S.v4 W.hse y1 y2 y3 y4 y5 W.hex hjk (by decide) (by decide) (by decide) (by decide) (by decide) (by decide)
  rw [← eb] at G
  exact peI (pe_lamN (T := C.T) (k := k) (t := fun E => tE ⟨C.X.K, C.X.mg, C.T, E⟩ f) hg gx kp lk hcd bnd S.sc rfl S.v1 G TB hcode hmT hu hr L hdef hbind (fun A outer s H E f' c' hr' => hbody A outer s H E f' c' hr')) (tE_lam W.hcs)
end
end FD

set_option Elab.async false
set_option linter.all false
set_option maxRecDepth 100000
set_option maxHeartbeats 4000000
set_option autoImplicit false
/-! Readings of the law k02: what is refused, the law. -/
namespace FD
open PySem PySem.Spec PyProof.Rows L2
local macro_rules | `(tactic| walk_at "rd") => `(tactic| simp only [startD, wipeD, dVar, dC, dOp, dUn, dCB, dCons, dNil, dRet, dSeq, dNext, dPass, dDrop, dIfS_eq, dAsg, dgName, dgTupN, dgCons, dgNil, dPar, dB, dAnd_eq, dOr_eq, dNot, dAndV_eq, dOrV_eq, dNotV, dIf_eq, dTup, dLst, dNeg, dChain_eq, dCall, dRaise, dImm, dMut, dYes, dRev, dM1, dSl, dNone, dPart, andK_bl, ifnot,
  gAdd, gSub, gMul, gDiv, gMod, gPow, gEq, gNe, gCmpI, gIx, gSl, gLen, gInt, gAbs, gMax, gMin, gTuple, gList, gIsi, gIn, gIsN, gNotN, isNon, gCount, kbs, eqb_int, eqb_str, eqb_bl, cmp_int, cmp_str, cmp_bl,
  List.map_cons, List.map_nil, List.replicate, List.length_cons, List.length_nil, List.cons_append, List.nil_append, List.append_nil, Bool.not_true, Bool.not_false,
  List.getElem?_cons_zero, List.getElem?_cons_succ, List.set_cons_zero, List.set_cons_succ, Option.some.injEq, exists_eq_left', exists_eq_left, true_and, and_true, Nat.reduceAdd, Nat.reduceSub, tyN, reduceCtorEq, false_and, exists_false, decide_eq_true_eq, if_true, if_false, Bool.false_eq_true])
def ers : List Str := ["InvalidRecipe", "InvalidNumber", "InvalidPlace"]
def heldS (cs : Str → Addr) : V → Option DSp := fun v => if v = .ref (cs "crease") then some sp_crease else if v = .ref (cs "valleys") then some sp_valleys else none
theorem held1 {cs : Str → Addr} : heldS cs (.ref (cs "crease")) = some sp_crease := if_pos rfl
theorem held2 {cs : Str → Addr} (h : cs "crease" ≠ cs "valleys") : heldS cs (.ref (cs "valleys")) = some sp_valleys := (if_neg (fun e => h (V.ref.inj e).symm)).trans (if_pos rfl)
theorem word_n : wordOf "InvalidNumber" = "number value" := by decide +kernel
theorem word_p : wordOf "InvalidPlace" = "place value" := by decide +kernel
theorem word_r : wordOf "InvalidRecipe" = "recipe value" := by decide +kernel
/-- refused ahead of the place -/
theorem strip_num {r m p : D} {G : Store} {E : DXK} {K : List Bool → Nat → Prop} (hr : okD 50 r = true) (hm : okD 50 m = true) (hp : okD 50 p = true) (h1 : isRecD r = true) (h2 : isIntD 0 100 m = false) (e : E "InvalidNumber" G) : stripK r m p G E K := by
  refine ⟨hr, hm, hp, fun h => ?_, fun _ _ => e, fun i _ hi hi2 _ => ?_, fun _ _ i _ _ _ _ hi hi2 _ _ _ => ?_⟩
  · rw [h1] at h; cases h
  · rw [hi, isInt_true (by omega) (by omega)] at h2; cases h2
  · rw [hi, isInt_true (by omega) (by omega)] at h2; cases h2
theorem strip_rec {r m p : D} {G : Store} {E : DXK} {K : List Bool → Nat → Prop} (hr : okD 50 r = true) (hm : okD 50 m = true) (hp : okD 50 p = true) (h1 : isRecD r = false) (e : E "InvalidRecipe" G) : stripK r m p G E K := by
  refine ⟨hr, hm, hp, fun _ => e, fun h _ => ?_, fun i h _ _ _ => ?_, fun _ _ _ _ h _ _ _ _ _ _ _ => ?_⟩ <;> (rw [h1] at h; cases h)
theorem strip_place {r p : D} {m : Nat} {G : Store} {E : DXK} {K : List Bool → Nat → Prop} (hr : okD 50 r = true) (hp : okD 50 p = true) (h1 : isRecD r = true) (hm : m ≤ 100) (h2 : isIntD 1 (lastI m) p = false) (e : E "InvalidPlace" G) : stripK r (.int (m : Int)) p G E K := by
  refine ⟨hr, rfl, hp, fun h => ?_, fun _ h => ?_, fun i _ hi _ _ => e, fun _ _ i j _ _ _ hi _ hj h3 h4 => ?_⟩
  · rw [h1] at h; cases h
  · rw [isInt_true (by omega) (by omega)] at h; cases h
  · have q := D.int.inj hi
    obtain rfl : i = m := by omega
    unfold lastI at h2
    rw [Int.toNat_natCast, hj, isInt_true (by omega) (by omega)] at h2; cases h2
theorem crease_of {r m p : D} {G : Store} {Q : DQ} {E : DXK} (h : stripK r m p G E fun fs j => Q (cD (crR fs.reverse j)) G) : sp_crease [r, m, p] G Q E := h
theorem valleys_of {r m p : D} {G : Store} {Q : DQ} {E : DXK} (h : stripK r m p G E fun fs j => Q (.int (vlR fs.reverse j : Nat)) G) : sp_valleys [r, m, p] G Q E := h
theorem row_of {r m p l : D} {G : Store} {Q : DQ} {E : DXK} (hl : okD 50 l = true) (h : stripK r m p G E fun fs j => (isIntD 1 60 l = false → E "InvalidNumber" G) ∧ (∀ n : Nat, l = .int (n : Int) → 1 ≤ n → n ≤ 60 → 2 ^ fs.length < j + n → E "InvalidNumber" G) ∧
      (∀ n : Nat, l = .int (n : Int) → 1 ≤ n → n ≤ 60 → j + n ≤ 2 ^ fs.length → Q (.str (wS (rowB fs.reverse j n))) G)) : sp_row [r, m, p, l] G Q E := ⟨hl, h⟩
/-- the two defs, tried -/
theorem comp_two {cs : Str → Addr} {fs : DA} {x0 x1 x2 : Option D} {G : Store} {Z : List D → Store → Prop} {wd : Str} (h : ∀ v, v = cs "crease" ∨ v = cs "valleys" → ∀ (Q : DQ), Q (.str wd) G → dLam ers (dCallL 3 (heldS cs) fs) [x0, x1, x2, some (.obj (.ref v))] G Q noE)
    (z : Z [.str wd, .str wd] G) : compL (bN 3) dYes (dLam ers (dCallL 3 (heldS cs) fs)) [x0, x1, x2, none] Z [.obj (.ref (cs "crease")), .obj (.ref (cs "valleys"))] [] G := by
  refine compL_map (fun _ => .str wd) _ [] (fun d hd => ⟨_, rfl, fun Q hq => ?_⟩) (by show 2 ≤ sizeLine; decide) z
  rcases List.mem_cons.mp hd with rfl | hd
  · exact h _ (.inl rfl) Q hq
  · rw [List.mem_singleton.mp hd]; exact h _ (.inr rfl) Q hq
def l_law_refused_1 (cs : Str → Addr) : DS := (dFor (dItL (dLst (dCons (dC .non) (dCons (dNeg (dC (.int 1))) (dCons (dC (.int 101)) (dCons (dC (.bl true)) (dCons (dC (.str "3")) dNil))))))) (dgName 1) (dSeq (dAsg (dImm (dComp (dItT (dTup (dCons (dC (.obj (.ref (cs "crease")))) (dCons (dC (.obj (.ref (cs "valleys")))) dNil)))) (bN 3) [3] dYes (dLam ers (dCallL 3 (heldS cs) (dCons (dVar 0) (dCons (dVar 1) (dCons (dC .non) dNil))))))) (dgName 2))
  (dIfS (dB (dOp gNe (dOp gAdd (dVar 2) (dLst (dCons (dLam ers (dCall sp_row (dCons (dVar 0) (dCons (dVar 1) (dCons (dC .non) (dCons (dC .non) dNil)))))) dNil))) (dOp gMul (dLst (dCons (dC (.str "number value")) dNil)) (dC (.int 3))))) (dRet (dC (.bl false))) dNext)))
def l_law_refused_2 (cs : Str → Addr) : DS := (dFor (dItL (dLst (dCons (dC .non) (dCons (dC (.int 0)) (dCons (dNeg (dC (.int 1))) (dCons (dC (.int 8)) (dCons (dC (.bl true)) (dCons (dC (.str "1")) dNil)))))))) (dgName 1) (dSeq (dAsg (dImm (dComp (dItT (dTup (dCons (dC (.obj (.ref (cs "crease")))) (dCons (dC (.obj (.ref (cs "valleys")))) dNil)))) (bN 3) [3] dYes (dLam ers (dCallL 3 (heldS cs) (dCons (dVar 0) (dCons (dC (.int 3)) (dCons (dVar 1) dNil))))))) (dgName 2))
  (dIfS (dB (dOp gNe (dOp gAdd (dVar 2) (dLst (dCons (dLam ers (dCall sp_row (dCons (dVar 0) (dCons (dC (.int 3)) (dCons (dVar 1) (dCons (dC .non) dNil)))))) dNil))) (dOp gMul (dLst (dCons (dC (.str "place value")) dNil)) (dC (.int 3))))) (dRet (dC (.bl false))) dNext)))
def l_law_refused_3 (cs : Str → Addr) : DS := (dFor (dItL (dLst (dCons (dC .non) (dCons (dC (.int 0)) (dCons (dC (.int 61)) (dCons (dC (.int 6)) (dCons (dC (.bl true)) (dCons (dC (.str "1")) dNil)))))))) (dgName 1) (dIfS (dB (dOp gNe (dLam ers (dCall sp_row (dCons (dVar 0) (dCons (dC (.int 3)) (dCons (dC (.int 3)) (dCons (dVar 1) dNil)))))) (dC (.str "number value")))) (dRet (dC (.bl false))) dNext))
def r_law_refused (cs : Str → Addr) : DS := (dSeq (l_law_refused_1 cs)
  (dSeq (l_law_refused_2 cs)
  (dSeq (l_law_refused_3 cs)
  (dRet (dOp gEq (dLam ers (dCall sp_crease (dCons (dVar 0) (dCons (dC (.int 0)) (dCons (dC (.int 1)) dNil))))) (dC (.str "place value")))))))
def n_law_refused : List Str := ["_law_recipe", "_law_odd", "_law_words", "_law_call"]
def sp_law_refused : DSp
  | [d], G, Q, _ => ∃ e a : List Bool, d = recD e a ∧ (e.length ≤ 12 ∧ 0 < a.length ∧ a.length ≤ 12) ∧ Q (.bl true) G
  | _, _, _, _ => False
theorem len_law_refused {ds : List D} {G : Store} {Q : DQ} {E : DXK} (h : sp_law_refused ds G Q E) : ds.length = 1 := by
  unfold sp_law_refused at h
  split at h
  · rfl
  · exact h.elim
theorem lp_refused_1 {cs : Str → Addr} (hne : cs "crease" ≠ cs "valleys") {B : DEnds} {G : Store} {e a : List Bool} {x1 x2 : Option D} (h1 : e.length ≤ 12) (h0 : 0 < a.length) (h2 : a.length ≤ 12) (q : ∀ x1 x2, B.nx [some (recD e a), x1, x2, none] G) : l_law_refused_1 cs B [some (recD e a), x1, x2, none] G := by
  unfold l_law_refused_1
  show dItL _ _ _ _ _
  unfold dItL
  walk_at "rd"
  refine ⟨by show 5 ≤ sizeLine; decide, ?_⟩
  refine forL_each (fun ρ G' => G' = G ∧ ∃ x1 x2, ρ = [some (recD e a), x1, x2, none]) _ (fun d hd ρ G1 B' hi hr he hx => ?_) _ _ ⟨rfl, x1, x2, rfl⟩ fun ρ' G' ⟨e1, x1, x2, e2⟩ => by rw [e1, e2]; exact q x1 x2
  obtain ⟨rfl, x1, x2, rfl⟩ := hi
  have hd : okD 50 d = true ∧ isIntD 0 100 d = false := by
    simp only [List.mem_cons, List.not_mem_nil, or_false] at hd
    rcases hd with rfl | rfl | rfl | rfl | rfl <;> decide +kernel
  unfold dComp dItT
  walk_at "rd"
  refine ⟨by show 2 ≤ sizeLine; decide, ?_⟩
  have hrc := isRec_rec h1 h0 h2
  have hok := recD_ok h1 h2
  refine comp_two (wd := "number value") (fun v hv Q hq => ?_) ?_
  · unfold dLam dCallL
    walk_at "rd"
    have fin : (Str.ofString "InvalidNumber" ∈ ers) ∧ Q (.str (wordOf (Str.ofString "InvalidNumber"))) G1 := ⟨by decide, by rw [word_n]; exact hq⟩
    rcases hv with rfl | rfl
    · exact ⟨_, _, rfl, held1, crease_of (strip_num hok hd.1 rfl hrc hd.2 fin)⟩
    · exact ⟨_, _, rfl, held2 hne, valleys_of (strip_num hok hd.1 rfl hrc hd.2 fin)⟩
  · walk_at "rd"
    unfold dLam
    walk_at "rd"
    refine row_of rfl (strip_num hok hd.1 rfl hrc hd.2 ⟨by decide, ?_⟩)
    rw [word_n]
    refine ⟨by show 1 ≤ sizeLine; decide, by show 3 ≤ sizeLine; decide, by show 1 ≤ sizeLine; decide, by decide, by decide +kernel, ifP (by decide +kernel) (hx _ _ ⟨rfl, _, _, rfl⟩)⟩
theorem lp_refused_2 {cs : Str → Addr} (hne : cs "crease" ≠ cs "valleys") {B : DEnds} {G : Store} {e a : List Bool} {x1 x2 : Option D} (h1 : e.length ≤ 12) (h0 : 0 < a.length) (h2 : a.length ≤ 12) (q : ∀ x1 x2, B.nx [some (recD e a), x1, x2, none] G) : l_law_refused_2 cs B [some (recD e a), x1, x2, none] G := by
  unfold l_law_refused_2
  show dItL _ _ _ _ _
  unfold dItL
  walk_at "rd"
  refine ⟨by show 6 ≤ sizeLine; decide, ?_⟩
  refine forL_each (fun ρ G' => G' = G ∧ ∃ x1 x2, ρ = [some (recD e a), x1, x2, none]) _ (fun d hd ρ G1 B' hi hr he hx => ?_) _ _ ⟨rfl, x1, x2, rfl⟩ fun ρ' G' ⟨e1, x1, x2, e2⟩ => by rw [e1, e2]; exact q x1 x2
  obtain ⟨rfl, x1, x2, rfl⟩ := hi
  have hd : okD 50 d = true ∧ isIntD 1 (lastI (3 : Nat)) d = false := by
    simp only [List.mem_cons, List.not_mem_nil, or_false] at hd
    rcases hd with rfl | rfl | rfl | rfl | rfl | rfl <;> decide +kernel
  unfold dComp dItT
  walk_at "rd"
  refine ⟨by show 2 ≤ sizeLine; decide, ?_⟩
  have hrc := isRec_rec h1 h0 h2
  have hok := recD_ok h1 h2
  refine comp_two (wd := "place value") (fun v hv Q hq => ?_) ?_
  · unfold dLam dCallL
    walk_at "rd"
    have fin : (Str.ofString "InvalidPlace" ∈ ers) ∧ Q (.str (wordOf (Str.ofString "InvalidPlace"))) G1 := ⟨by decide, by rw [word_p]; exact hq⟩
    rcases hv with rfl | rfl
    · exact ⟨_, _, rfl, held1, crease_of (strip_place (m := 3) hok hd.1 hrc (by decide) hd.2 fin)⟩
    · exact ⟨_, _, rfl, held2 hne, valleys_of (strip_place (m := 3) hok hd.1 hrc (by decide) hd.2 fin)⟩
  · walk_at "rd"
    unfold dLam
    walk_at "rd"
    refine row_of rfl (strip_place (m := 3) hok hd.1 hrc (by decide) hd.2 ⟨by decide, ?_⟩)
    rw [word_p]
    refine ⟨by show 1 ≤ sizeLine; decide, by show 3 ≤ sizeLine; decide, by show 1 ≤ sizeLine; decide, by decide, by decide +kernel, ifP (by decide +kernel) (hx _ _ ⟨rfl, _, _, rfl⟩)⟩
theorem lp_refused_3 {cs : Str → Addr} {B : DEnds} {G : Store} {e a : List Bool} {x1 x2 : Option D} (h1 : e.length ≤ 12) (h0 : 0 < a.length) (h2 : a.length ≤ 12) (q : ∀ x1 x2, B.nx [some (recD e a), x1, x2, none] G) : l_law_refused_3 cs B [some (recD e a), x1, x2, none] G := by
  unfold l_law_refused_3
  show dItL _ _ _ _ _
  unfold dItL
  walk_at "rd"
  refine ⟨by show 6 ≤ sizeLine; decide, ?_⟩
  refine forL_each (fun ρ G' => G' = G ∧ ∃ x1 x2, ρ = [some (recD e a), x1, x2, none]) _ (fun d hd ρ G1 B' hi hr he hx => ?_) _ _ ⟨rfl, x1, x2, rfl⟩ fun ρ' G' ⟨e1, x1, x2, e2⟩ => by rw [e1, e2]; exact q x1 x2
  obtain ⟨rfl, x1, x2, rfl⟩ := hi
  have hd : okD 50 d = true ∧ (isIntD 1 60 d = false ∨ d = .int 6) := by
    simp only [List.mem_cons, List.not_mem_nil, or_false] at hd
    rcases hd with rfl | rfl | rfl | rfl | rfl | rfl
    · exact ⟨rfl, .inl rfl⟩
    · exact ⟨rfl, .inl rfl⟩
    · exact ⟨rfl, .inl rfl⟩
    · exact ⟨rfl, .inr rfl⟩
    · exact ⟨rfl, .inl rfl⟩
    · exact ⟨by decide +kernel, .inl rfl⟩
  unfold dLam
  walk_at "rd"
  have fin : (Str.ofString "InvalidNumber" ∈ ers) ∧ if wordOf (Str.ofString "InvalidNumber") = Str.ofString "number value" then B'.nx [some (recD e a), some d, x2, none] G1 else B'.rt (.bl false) G1 :=
    ⟨by decide, ifP word_n (hx _ _ ⟨rfl, _, _, rfl⟩)⟩
  refine row_of hd.1 (strip_ok (n := 3) (j := 3) h1 h0 h2 (by decide) (by decide) (by decide) ⟨fun _ => fin, fun n hn n1 n2 n3 => fin, fun n hn n1 n2 n3 => ?_⟩)
  rcases hd.2 with h | h
  · rw [hn, isInt_true (by omega) (by omega)] at h; cases h
  · have q := D.int.inj (hn.symm.trans h)
    obtain rfl : n = 6 := by omega
    rw [foldsB_len] at n3
    exact absurd n3 (by decide)
theorem rd_law_refused {cs : Str → Addr} (hne : cs "crease" ≠ cs "valleys") : ∀ ds G Q E, sp_law_refused ds G Q E → r_law_refused cs (endD Q E) (startD n_law_refused ds) G := by
  intro ds G Q E h
  unfold sp_law_refused at h
  split at h
  · obtain ⟨e, a, rfl, ⟨h1, h0, h2⟩, q⟩ := h
    unfold r_law_refused n_law_refused
    walk_at "rd"
    refine lp_refused_1 hne h1 h0 h2 fun x1 x2 => ?_
    walk_at "rd"
    refine lp_refused_2 hne h1 h0 h2 fun x1 x2 => ?_
    walk_at "rd"
    refine lp_refused_3 h1 h0 h2 fun x1 x2 => ?_
    unfold dLam
    walk_at "rd"
    refine crease_of (strip_place (m := 0) (recD_ok h1 h2) rfl (isRec_rec h1 h0 h2) (by decide) (by decide) ⟨by decide, ?_⟩)
    have e1 : decide (wordOf (Str.ofString "InvalidPlace") = Str.ofString "place value") = true := decide_eq_true word_p
    rw [e1]; exact q
  · exact h.elim
def l_law_1 (cs : Str → Addr) : DS := (dFor (dItT (dTup (dCons (dOp gAdd (dC (.int 1)) (dCall sp_law_tear (dCons (dVar 2) (dCons (dC (.int 4)) dNil)))) (dCons (dC (.int 7)) dNil)))) (dgName 4) (dIfS (dNot (dB (dCall sp_law_small_right (dCons (dVar 3) (dCons (dVar 4) dNil))))) (dRet (dC (.bl false))) dNext))
def l_law_2 (cs : Str → Addr) : DS := (dFor (dItT (dTup (dCons (dC (.int 100)) (dCons (dOp gAdd (dC (.int 20)) (dCall sp_law_tear (dCons (dVar 2) (dCons (dC (.int 70)) dNil)))) dNil)))) (dgName 4) (dIfS (dNot (dB (dCall sp_law_great_right (dCons (dVar 2) (dCons (dVar 3) (dCons (dVar 4) dNil)))))) (dRet (dC (.bl false))) dNext))
def l_law_3 (cs : Str → Addr) : DS := (dFor (dItR1 (dCons (dCB gMax (dCons (dC (.int 5)) (dCons (dCB gMin (dCons (dC (.int 11)) (dCons (dCB gLen (dCons (dVar 0) dNil)) dNil))) dNil))) dNil)) (dgName 1) (dSeq (dAsg (dCall sp_law_sheet (dCons (dVar 0) (dCons (dVar 1) dNil))) (dgName 2))
  (dSeq (dAsg (dCall sp_law_any_recipe (dCons (dVar 2) (dCons (dCall sp_law_pick (dCons (dVar 2) (dCons (dLst (dCons (dC (.int 2)) (dCons (dC (.int 3)) (dCons (dC (.int 12)) dNil)))) dNil))) dNil))) (dgName 3))
  (dSeq (l_law_1 cs)
  (dSeq (l_law_2 cs)
  (dSeq (dAsg (dCall (sp_law_bent 3) (dCons (dVar 2) (dCons (dVar 3) dNil))) (dgName 5))
  (dIfS (dNot (dB (dCall sp_law_good_recipe (dCons (dVar 5) dNil)))) (dSeq (dAsg (dImm (dComp (dItT (dTup (dCons (dC (.obj (.ref (cs "crease")))) (dCons (dC (.obj (.ref (cs "valleys")))) dNil)))) (bN 7) [7] dYes (dLam ers (dCallL 7 (heldS cs) (dCons (dVar 5) (dCons (dC .non) (dCons (dC .non) dNil))))))) (dgName 6))
  (dIfS (dOr (dB (dOp gNe (dVar 6) (dOp gMul (dLst (dCons (dC (.str "recipe value")) dNil)) (dC (.int 2))))) (dNot (dB (dCall sp_law_refused (dCons (dVar 3) dNil))))) (dRet (dC (.bl false))) dNext)) dNext)))))))
def r_law (cs : Str → Addr) : DS := (dSeq (l_law_3 cs)
  (dSeq (dIfS (dOr (dB (dOp gNe (dCall sp_row (dCons (dTup (dCons (dTup dNil) (dCons (dTup (dCons (dC (.str "over")) (dCons (dC (.str "under")) dNil))) dNil))) (dCons (dC (.int 3)) (dCons (dC (.int 1)) (dCons (dC (.int 7)) dNil))))) (dC (.str "vmmvvvm")))) (dB (dOp gNe (dCall sp_row (dCons (dTup (dCons (dTup (dCons (dC (.str "under")) dNil)) (dCons (dTup (dCons (dC (.str "over")) dNil)) dNil))) (dCons (dC (.int 2)) (dCons (dC (.int 1)) (dCons (dC (.int 3)) dNil))))) (dC (.str "vmm"))))) (dRet (dC (.bl false))) dNext)
  (dRet (dAndV (dOp gEq (dCall sp_crease (dCons (dTup (dCons (dTup dNil) (dCons (dTup (dCons (dC (.str "over")) dNil)) dNil))) (dCons (dC (.int 100)) (dCons (dOp gPow (dC (.int 10)) (dC (.int 30))) dNil)))) (dC (.str "v"))) (dOp gEq (dCall sp_valleys (dCons (dTup (dCons (dTup dNil) (dCons (dTup (dCons (dC (.str "over")) dNil)) dNil))) (dCons (dC (.int 3)) (dCons (dC (.int 5)) dNil)))) (dC (.int 4)))))))
def n_law : List Str := ["_law_script", "_law_k", "_law_sheet_here", "_law_recipe", "_law_many", "_law_odd", "_law_words", "_law_call"]
def sp_law : DSp
  | [.scr ns], G, Q, _ => ns.length < 2 ^ 40 ∧ ∀ G', Q (.bl true) G'
  | _, _, _, _ => False
theorem len_law {ds : List D} {G : Store} {Q : DQ} {E : DXK} (h : sp_law ds G Q E) : ds.length = 1 := by
  unfold sp_law at h
  split at h
  · rfl
  · exact h.elim
theorem lp_law_1 {cs : Str → Addr} {B : DEnds} {G : Store} {p : Addr} {e a : List Bool} {x0 x1 x4 x5 x6 x7 : Option D} (hp : shOk G p) (h1 : e.length ≤ 12) (h0 : 0 < a.length) (h2 : a.length ≤ 12)
    (q : ∀ x4 G', shOk G' p → B.nx [x0, x1, some (.obj (.ref p)), some (recD e a), x4, x5, x6, x7] G') : l_law_1 cs B [x0, x1, some (.obj (.ref p)), some (recD e a), x4, x5, x6, x7] G := by
  unfold l_law_1
  show dItT _ _ _ _ _
  unfold dItT
  walk_at "rd"
  refine ⟨hp, ⟨by decide, by decide⟩, fun r G1 r0 r1 s1 => ?_⟩
  walk_at "rd"
  refine ⟨by show 2 ≤ sizeLine; decide, ?_⟩
  refine forL_each (fun ρ G' => shOk G' p ∧ ∃ x4, ρ = [x0, x1, some (.obj (.ref p)), some (recD e a), x4, x5, x6, x7]) _ (fun d hd ρ G2 B' hi hr he hx => ?_) _ _ ⟨s1.ok, _, rfl⟩ fun ρ' G' ⟨e1, x4, e2⟩ => by rw [e2]; exact q x4 G' e1
  obtain ⟨hi, x4, rfl⟩ := hi
  have hd : ∃ n, d = .int n ∧ 1 ≤ n ∧ n ≤ 13 := by
    simp only [List.mem_cons, List.not_mem_nil, or_false] at hd
    rcases hd with rfl | rfl
    · exact ⟨_, rfl, by omega, by omega⟩
    · exact ⟨_, rfl, by omega, by omega⟩
  obtain ⟨n, rfl, n1, n2⟩ := hd
  walk_at "rd"
  exact ⟨e, a, rfl, rfl, ⟨h1, h0, h2⟩, ⟨n1, n2⟩, ifP rfl (hx _ _ ⟨hi, _, rfl⟩)⟩
theorem lp_law_2 {cs : Str → Addr} {B : DEnds} {G : Store} {p : Addr} {e a : List Bool} {x0 x1 x4 x5 x6 x7 : Option D} (hp : shOk G p) (h1 : e.length ≤ 12) (h0 : 0 < a.length) (h2 : a.length ≤ 12)
    (q : ∀ x4 G', shOk G' p → B.nx [x0, x1, some (.obj (.ref p)), some (recD e a), x4, x5, x6, x7] G') : l_law_2 cs B [x0, x1, some (.obj (.ref p)), some (recD e a), x4, x5, x6, x7] G := by
  unfold l_law_2
  show dItT _ _ _ _ _
  unfold dItT
  walk_at "rd"
  refine ⟨hp, ⟨by decide, by decide⟩, fun r G1 r0 r1 s1 => ?_⟩
  walk_at "rd"
  refine ⟨by show 2 ≤ sizeLine; decide, ?_⟩
  refine forL_each (fun ρ G' => shOk G' p ∧ ∃ x4, ρ = [x0, x1, some (.obj (.ref p)), some (recD e a), x4, x5, x6, x7]) _ (fun d hd ρ G2 B' hi hr he hx => ?_) _ _ ⟨s1.ok, _, rfl⟩ fun ρ' G' ⟨e1, x4, e2⟩ => by rw [e2]; exact q x4 G' e1
  obtain ⟨hi, x4, rfl⟩ := hi
  have hd : ∃ n, d = .int n ∧ 2 ≤ n ∧ n ≤ 100 := by
    simp only [List.mem_cons, List.not_mem_nil, or_false] at hd
    rcases hd with rfl | rfl
    · exact ⟨_, rfl, by omega, by omega⟩
    · exact ⟨_, rfl, by omega, by omega⟩
  obtain ⟨n, rfl, n1, n2⟩ := hd
  walk_at "rd"
  exact ⟨e, a, rfl, rfl, ⟨h1, h0, h2⟩, ⟨n1, n2⟩, hi, fun G' hG => ifP rfl (hx _ _ ⟨hG.ok, _, rfl⟩)⟩
theorem lp_law_3 {cs : Str → Addr} (hne : cs "crease" ≠ cs "valleys") {B : DEnds} {G : Store} {ns : List Int} {x1 x2 x3 x4 x5 x6 : Option D} (hl : ns.length < 2 ^ 40) (q : ∀ x1 x2 x3 x4 x5 x6 G', B.nx [some (.scr ns), x1, x2, x3, x4, x5, x6, none] G') : l_law_3 cs B [some (.scr ns), x1, x2, x3, x4, x5, x6, none] G := by
  unfold l_law_3
  show dItR1 _ _ _ _ _
  unfold dItR1
  walk_at "rd"
  refine ⟨by split <;> split <;> omega, ?_⟩
  refine forL_each (fun ρ _ => ∃ x1 x2 x3 x4 x5 x6, ρ = [some (.scr ns), x1, x2, x3, x4, x5, x6, none]) _ (fun d hd ρ G1 B' hi hr he hx => ?_) _ _ ⟨_, _, _, _, _, _, rfl⟩ fun ρ' G' ⟨x1, x2, x3, x4, x5, x6, e2⟩ => by rw [e2]; exact q _ _ _ _ _ _ G'
  obtain ⟨x1, x2, x3, x4, x5, x6, rfl⟩ := hi
  obtain ⟨i, hi, rfl⟩ := mem_upto hd
  have hi2 : i < 2 ^ 40 := by
    refine Nat.lt_of_lt_of_le hi ?_
    split <;> split <;> omega
  walk_at "rd"
  refine ⟨⟨by omega, by omega⟩, fun p G2 hp2 s2 => ?_⟩
  walk_at "rd"
  refine ⟨by show 3 ≤ sizeLine; decide, s2.ok, ⟨by show 0 < 3; decide, by show 3 ≤ 1000; decide⟩, fun d G3 hd3 s3 => ?_⟩
  have hd3 : ∃ n, d = .int n ∧ 1 ≤ n ∧ n ≤ 12 := by
    simp only [List.mem_cons, List.not_mem_nil, or_false] at hd3
    rcases hd3 with rfl | rfl | rfl <;> exact ⟨_, rfl, by decide, by decide⟩
  obtain ⟨n, rfl, n1, n2⟩ := hd3
  refine ⟨s3.ok, ⟨n1, n2⟩, fun e a G4 h1 h0 h2 s4 => ?_⟩
  have k1 : e.length ≤ 12 := by omega
  have k2 : a.length ≤ 12 := by omega
  walk_at "rd"
  refine lp_law_1 s4.ok k1 (by omega) k2 fun x4 G5 hs5 => ?_
  walk_at "rd"
  refine lp_law_2 hs5 k1 (by omega) k2 fun x4 G6 hs6 => ?_
  walk_at "rd"
  have next : ∀ x1 x2 x3 x4 x5 x6 G', B'.nx [some (.scr ns), x1, x2, x3, x4, x5, x6, none] G' := fun x1 x2 x3 x4 x5 x6 G' => hx _ _ ⟨_, _, _, _, _, _, rfl⟩
  refine ⟨⟨hs6, by decide⟩, recD_st k1 k2, fun x G7 hx7 s7 => ?_⟩
  walk_at "rd"
  have hok : okD 50 x = true := okD_up 8 50 x (by decide) hx7
  refine ⟨hok, ?_⟩
  cases hrc : isRecD x with
  | true => exact ifP rfl (next _ _ _ _ _ _ _)
  | false =>
    refine ifN Bool.false_ne_true ?_
    unfold dComp dItT
    walk_at "rd"
    refine ⟨by show 2 ≤ sizeLine; decide, ?_⟩
    refine compL_map (fun _ => .str "recipe value") _ [] (fun d hd => ⟨_, rfl, fun Q hq => ?_⟩) (by show 2 ≤ sizeLine; decide) ?_
    · unfold dLam dCallL
      walk_at "rd"
      have fin : (Str.ofString "InvalidRecipe" ∈ ers) ∧ Q (.str (wordOf (Str.ofString "InvalidRecipe"))) G7 := ⟨by decide, by rw [word_r]; exact hq⟩
      rcases List.mem_cons.mp hd with rfl | hd
      · exact ⟨_, _, rfl, held1, crease_of (strip_rec hok rfl rfl hrc fin)⟩
      · rw [List.mem_singleton.mp hd]
        exact ⟨_, _, rfl, held2 hne, valleys_of (strip_rec hok rfl rfl hrc fin)⟩
    · walk_at "rd"
      refine ⟨by show 1 ≤ sizeLine; decide, by decide, by decide +kernel, ifP (by decide +kernel) ⟨e, a, rfl, ⟨k1, by omega, k2⟩, ifP rfl (next _ _ _ _ _ _ _)⟩⟩
theorem rd_law {cs : Str → Addr} (hne : cs "crease" ≠ cs "valleys") : ∀ ds G Q E, sp_law ds G Q E → r_law cs (endD Q E) (startD n_law ds) G := by
  intro ds G Q E h
  unfold sp_law at h
  split at h
  · rename_i ns
    obtain ⟨hl, q⟩ := h
    unfold r_law n_law
    walk_at "rd"
    refine lp_law_3 hne hl fun x1 x2 x3 x4 x5 x6 G' => ?_
    walk_at "rd"
    refine ⟨by decide, by decide, by decide, ?_⟩
    refine row_ok (e := []) (a := [true, false]) (n := 3) (j := 1) (l := 7) (by decide) (by decide) (by decide) (by decide) (by decide) (by decide) (by decide) (by decide) (by decide) ?_
    refine ⟨rfl, ifP (by decide +kernel) ⟨by decide, by decide, by decide, ?_⟩⟩
    refine row_ok (e := [false]) (a := [true]) (n := 2) (j := 1) (l := 3) (by decide) (by decide) (by decide) (by decide) (by decide) (by decide) (by decide) (by decide) (by decide) ?_
    refine ⟨rfl, ifP (by decide +kernel) ⟨by decide, by decide, by decide, by decide, ?_⟩⟩
    have e30 : (10 : Int) ^ Int.toNat 30 = ((10 ^ 30 : Nat) : Int) := by decide
    rw [e30]
    refine crease_ok (e := []) (a := [true]) (n := 100) (j := 10 ^ 30) (by decide) (by decide) (by decide) (by decide) (by decide) (by decide) ?_
    refine ⟨rfl, ifP (by decide +kernel) ⟨by decide, by decide, by decide, ?_⟩⟩
    refine valleys_ok (e := []) (a := [true]) (n := 3) (j := 5) (by decide) (by decide) (by decide) (by decide) (by decide) (by decide) ?_
    refine ⟨rfl, ?_⟩
    have e4 : eqb (.int ((vlR (foldsB [] [true] 3).reverse 5 : Nat) : Int)) (.int 4) = true := by decide +kernel
    rw [e4]; exact q G'
  · exact h.elim
end FD

set_option Elab.async false
set_option linter.all false
set_option maxRecDepth 100000
set_option maxHeartbeats 4000000
set_option autoImplicit false
namespace FD
open PySem PySem.Spec PyProof.Rows L2 HotX L2H LamX
abbrev topS (i : Nat) : Stmt := PySem.Challenge.pw_foldedstrip_k02_whole_creases_at_all_pla.main.body.getD i (.Pass ⟨0, 0, 0, 0⟩)
structure Glob (K : PySem.W.Frag) (mg : Str → Option Value) (cs : Str → Addr) : Prop where
  m_ValueError : mg "ValueError" = none
  m_abs : mg "abs" = none
  m_all : mg "all" = none
  m_bool : mg "bool" = none
  m_int : mg "int" = none
  m_isinstance : mg "isinstance" = none
  m_len : mg "len" = none
  m_list : mg "list" = none
  m_max : mg "max" = none
  m_min : mg "min" = none
  m_range : mg "range" = none
  m_str : mg "str" = none
  m_tuple : mg "tuple" = none
  m_zip : mg "zip" = none
  c_HILL : ∃ t, mg "HILL" = some (.str "m" t)
  c_MOST_FOLDS : ∃ t, mg "MOST_FOLDS" = some (.int 100 t)
  c_MOST_IN_ROW : ∃ t, mg "MOST_IN_ROW" = some (.int 60 t)
  c_MOST_WRITTEN : ∃ t, mg "MOST_WRITTEN" = some (.int 12 t)
  c_OVER : ∃ t, mg "OVER" = some (.str "over" t)
  c_UNDER : ∃ t, mg "UNDER" = some (.str "under" t)
  c_VALLEY : ∃ t, mg "VALLEY" = some (.str "v" t)
  e_InvalidNumber : ErrC K mg "InvalidNumber"
  e_InvalidPlace : ErrC K mg "InvalidPlace"
  e_InvalidRecipe : ErrC K mg "InvalidRecipe"
  o_crease : mg "crease" = some (.ref (cs "crease"))
  o_valleys : mg "valleys" = some (.ref (cs "valleys"))
def FnAt (K : PySem.W.Frag) (mg : Str → Option Value) (x : Str) (st : Stmt) (ps : List Str) : Prop := ∃ c, FnAtC K mg x st ps c
section
variable {P : Program} {w : World} {K : PySem.W.Frag} {mg : Str → Option Value} {base : Heap} {T : Tb} {cs : Str → Addr}
abbrev s_law_word : Stmt := topS 63
abbrev s_is_integer : Stmt := topS 22
theorem sc_is_integer : FnScope n_is_integer ["value", "low", "high"] (defScope s_is_integer) := ⟨rfl, rfl, rfl, by decide +kernel, rfl, by decide +kernel, by decide +kernel⟩
theorem ok_is_integer (U : Glob K mg cs) (F : FnAt K mg "is_integer" s_is_integer ["value", "low", "high"]) : Def P w K mg base T 1 "is_integer" sp_is_integer := by
  obtain ⟨c, F⟩ := F
  exact def_ofC (fs := r_is_integer) F sc_is_integer (fun h => len_is_integer h) (fun f A outer s H E hr => by
    have nd := sc_is_integer.nd
    exact (pds_one (pds_ret (pd_and (pd_callB bt_isi U.m_isinstance (by decide +kernel) (pda_cons (pd_var 0) (pda_cons (pd_ty U.m_int (by decide +kernel)) pda_nil))) (pd_and (pd_not (pd_callB bt_isi U.m_isinstance (by decide +kernel) (pda_cons (pd_var 0) (pda_cons (pd_ty U.m_bool (by decide +kernel)) pda_nil)))) (pd_one (pd_chain cd_le cd_le (pd_var 1) (pd_var 0) (pd_var 2)))))))) rd_is_integer
abbrev s_is_fold : Stmt := topS 23
theorem sc_is_fold : FnScope n_is_fold ["value"] (defScope s_is_fold) := ⟨rfl, rfl, rfl, by decide +kernel, rfl, by decide +kernel, by decide +kernel⟩
theorem ok_is_fold (U : Glob K mg cs) (F : FnAt K mg "is_fold" s_is_fold ["value"]) : Def P w K mg base T 1 "is_fold" sp_is_fold := by
  obtain ⟨c, F⟩ := F
  exact def_ofC (fs := r_is_fold) F sc_is_fold (fun h => len_is_fold h) (fun f A outer s H E hr => by
    have nd := sc_is_fold.nd
    exact (pds_one (pds_ret (pd_and (pd_callB bt_isi U.m_isinstance (by decide +kernel) (pda_cons (pd_var 0) (pda_cons (pd_ty U.m_str (by decide +kernel)) pda_nil))) (pd_one (pd_cmp cd_in (pd_var 0) (pd_tup (pda_cons (pd_gstr U.c_OVER) (pda_cons (pd_gstr U.c_UNDER) pda_nil))) (by rfl))))))) rd_is_fold
abbrev s_are_folds : Stmt := topS 24
theorem sc_are_folds : FnScope n_are_folds ["value"] (defScope s_are_folds) := ⟨rfl, rfl, rfl, by decide +kernel, rfl, by decide +kernel, by decide +kernel⟩
theorem ok_are_folds (U : Glob K mg cs) (d_is_fold : Def P w K mg base T 1 "is_fold" sp_is_fold) (F : FnAt K mg "are_folds" s_are_folds ["value"]) : Def P w K mg base T 2 "are_folds" sp_are_folds := by
  obtain ⟨c, F⟩ := F
  exact def_ofC (fs := r_are_folds) F sc_are_folds (fun h => len_are_folds h) (fun f A outer s H E hr => by
    have nd := sc_are_folds.nd
    exact (pds_one (pds_ret (pd_and (pd_callB bt_isi U.m_isinstance (by decide +kernel) (pda_cons (pd_var 0) (pda_cons (pd_ty U.m_tuple (by decide +kernel)) pda_nil))) (pd_one (pd_callB (bt_all rfl) U.m_all (by decide +kernel) (pda_cons (pd_imm (pdl_comp (j := 1) rfl nd (pdi_tup (pd_var 0)) (blkOk_by (N := n_are_folds) (sc := defScope s_are_folds) (by decide +kernel)) (fun _ _ _ _ _ => by first | exact pg_name (i := 1) nd rfl (Or.inl rfl) | exact pg_name (i := 1) nd rfl (Or.inr rfl)) (fun _ _ _ _ _ => pdts_nil) (fun _ _ _ _ _ => (pd_call d_is_fold hr (pda_cons (pd_var 1) pda_nil))))) pda_nil))))))) rd_are_folds
abbrev s_is_recipe : Stmt := topS 25
theorem sc_is_recipe : FnScope n_is_recipe ["value"] (defScope s_is_recipe) := ⟨rfl, rfl, rfl, by decide +kernel, rfl, by decide +kernel, by decide +kernel⟩
theorem ok_is_recipe (U : Glob K mg cs) (d_are_folds : Def P w K mg base T 2 "are_folds" sp_are_folds) (F : FnAt K mg "is_recipe" s_is_recipe ["value"]) : Def P w K mg base T 3 "is_recipe" sp_is_recipe := by
  obtain ⟨c, F⟩ := F
  exact def_ofC (fs := r_is_recipe) F sc_is_recipe (fun h => len_is_recipe h) (fun f A outer s H E hr => by
    have nd := sc_is_recipe.nd
    exact (pds_cons (pds_if (pdt_w (pdw_or (pdt_not (pdt_val (pd_callB bt_isi U.m_isinstance (by decide +kernel) (pda_cons (pd_var 0) (pda_cons (pd_ty U.m_tuple (by decide +kernel)) pda_nil))))) (pdw_or (pdt_cmp cd_ne (pd_callB bt_len U.m_len (by decide +kernel) (pda_cons (pd_var 0) pda_nil)) pd_int (nomark _)) (pdw_or (pdt_not (pdt_val (pd_call d_are_folds hr (pda_cons (pd_ix (pd_var 0) pd_int) pda_nil)))) (pdw_or1 (pdt_not (pdt_val (pd_call d_are_folds hr (pda_cons (pd_ix (pd_var 0) pd_int) pda_nil))))))))) (pds_one (pds_ret pd_bl)) pds_nil)
    (pds_one (pds_ret (pd_and (pd_cmp cd_le (pd_callB bt_len U.m_len (by decide +kernel) (pda_cons (pd_ix (pd_var 0) pd_int) pda_nil)) (pd_gint U.c_MOST_WRITTEN) (nomark _)) (pd_one (pd_chain cd_le cd_le pd_int (pd_callB bt_len U.m_len (by decide +kernel) (pda_cons (pd_ix (pd_var 0) pd_int) pda_nil)) (pd_gint U.c_MOST_WRITTEN)))))))) rd_is_recipe
abbrev s_need_recipe : Stmt := topS 26
theorem sc_need_recipe : FnScope n_need_recipe ["value"] (defScope s_need_recipe) := ⟨rfl, rfl, rfl, by decide +kernel, rfl, by decide +kernel, by decide +kernel⟩
theorem ok_need_recipe (U : Glob K mg cs) (d_is_recipe : Def P w K mg base T 3 "is_recipe" sp_is_recipe) (F : FnAt K mg "need_recipe" s_need_recipe ["value"]) : Def P w K mg base T 4 "need_recipe" sp_need_recipe := by
  obtain ⟨c, F⟩ := F
  exact def_ofC (fs := r_need_recipe) F sc_need_recipe (fun h => len_need_recipe h) (fun f A outer s H E hr => by
    have nd := sc_need_recipe.nd
    exact (pds_one (pds_if (pdt_not (pdt_val (pd_call d_is_recipe hr (pda_cons (pd_var 0) pda_nil)))) (pds_one (pds_raise rfl U.e_InvalidRecipe)) pds_nil))) rd_need_recipe
abbrev s_need_many : Stmt := topS 27
theorem sc_need_many : FnScope n_need_many ["value"] (defScope s_need_many) := ⟨rfl, rfl, rfl, by decide +kernel, rfl, by decide +kernel, by decide +kernel⟩
theorem ok_need_many (U : Glob K mg cs) (d_is_integer : Def P w K mg base T 1 "is_integer" sp_is_integer) (F : FnAt K mg "need_many" s_need_many ["value"]) : Def P w K mg base T 2 "need_many" sp_need_many := by
  obtain ⟨c, F⟩ := F
  exact def_ofC (fs := r_need_many) F sc_need_many (fun h => len_need_many h) (fun f A outer s H E hr => by
    have nd := sc_need_many.nd
    exact (pds_one (pds_if (pdt_not (pdt_val (pd_call d_is_integer hr (pda_cons (pd_var 0) (pda_cons pd_int (pda_cons (pd_gint U.c_MOST_FOLDS) pda_nil)))))) (pds_one (pds_raise rfl U.e_InvalidNumber)) pds_nil))) rd_need_many
abbrev s_power : Stmt := topS 28
theorem sc_power : FnScope n_power ["many"] (defScope s_power) := ⟨rfl, rfl, rfl, by decide +kernel, rfl, by decide +kernel, by decide +kernel⟩
theorem ok_power (U : Glob K mg cs) (F : FnAt K mg "power" s_power ["many"]) : Def P w K mg base T 1 "power" sp_power := by
  obtain ⟨c, F⟩ := F
  exact def_ofC (fs := r_power) F sc_power (fun h => len_power h) (fun f A outer s H E hr => by
    have nd := sc_power.nd
    exact (pds_cons (pds_set (i := 1) nd pd_int)
    (pds_cons (pds_for rfl (pdi_range1 U.m_range (pda_cons (pd_var 0) pda_nil)) (pdg_name (i := 2) nd) (pds_one (pds_set (i := 1) nd (pd_op bd_mul (pd_var 1) pd_int))))
    (pds_one (pds_ret (pd_var 1)))))) rd_power
abbrev s_item_of : Stmt := topS 29
theorem sc_item_of : FnScope n_item_of ["pair", "number"] (defScope s_item_of) := ⟨rfl, rfl, rfl, by decide +kernel, rfl, by decide +kernel, by decide +kernel⟩
theorem ok_item_of (U : Glob K mg cs) (F : FnAt K mg "item_of" s_item_of ["pair", "number"]) : Def P w K mg base T 1 "item_of" sp_item_of := by
  obtain ⟨c, F⟩ := F
  exact def_ofC (fs := r_item_of) F sc_item_of (fun h => len_item_of h) (fun f A outer s H E hr => by
    have nd := sc_item_of.nd
    exact (pds_cons (pds_asg (pd_var 0) (pdg_tup rfl (pdgs_cons (pdg_name (i := 2) nd) (pdgs_cons (pdg_name (i := 3) nd) pdgs_nil))))
    (pds_cons (pds_if (pdt_cmp cd_lt (pd_var 1) (pd_callB bt_len U.m_len (by decide +kernel) (pda_cons (pd_var 2) pda_nil)) (nomark _)) (pds_one (pds_ret (pd_ix (pd_var 2) (pd_var 1)))) pds_nil)
    (pds_one (pds_ret (pd_ix (pd_var 3) (pd_op bd_mod (pd_op bd_sub (pd_var 1) (pd_callB bt_len U.m_len (by decide +kernel) (pda_cons (pd_var 2) pda_nil))) (pd_callB bt_len U.m_len (by decide +kernel) (pda_cons (pd_var 3) pda_nil))))))))) rd_item_of
abbrev s_folds_of : Stmt := topS 30
theorem sc_folds_of : FnScope n_folds_of ["recipe", "many"] (defScope s_folds_of) := ⟨rfl, rfl, rfl, by decide +kernel, rfl, by decide +kernel, by decide +kernel⟩
theorem ok_folds_of (U : Glob K mg cs) (d_item_of : Def P w K mg base T 1 "item_of" sp_item_of) (F : FnAt K mg "folds_of" s_folds_of ["recipe", "many"]) : Def P w K mg base T 2 "folds_of" sp_folds_of := by
  obtain ⟨c, F⟩ := F
  exact def_ofC (fs := r_folds_of) F sc_folds_of (fun h => len_folds_of h) (fun f A outer s H E hr => by
    have nd := sc_folds_of.nd
    exact (pds_one (pds_ret (pd_callTy bt_tuple U.m_tuple (by decide +kernel) (pda_cons (pd_imm (pdl_comp (j := 2) rfl nd (pdi_range1 U.m_range (pda_cons (pd_var 1) pda_nil)) (blkOk_by (N := n_folds_of) (sc := defScope s_folds_of) (by decide +kernel)) (fun _ _ _ _ _ => by first | exact pg_name (i := 2) nd rfl (Or.inl rfl) | exact pg_name (i := 2) nd rfl (Or.inr rfl)) (fun _ _ _ _ _ => pdts_nil) (fun _ _ _ _ _ => (pd_call d_item_of hr (pda_cons (pd_var 0) (pda_cons (pd_var 2) pda_nil)))))) pda_nil))))) rd_folds_of
abbrev s_last_place : Stmt := topS 35
theorem sc_last_place : FnScope n_last_place ["many"] (defScope s_last_place) := ⟨rfl, rfl, rfl, by decide +kernel, rfl, by decide +kernel, by decide +kernel⟩
theorem ok_last_place (U : Glob K mg cs) (d_power : Def P w K mg base T 1 "power" sp_power) (F : FnAt K mg "last_place" s_last_place ["many"]) : Def P w K mg base T 2 "last_place" sp_last_place := by
  obtain ⟨c, F⟩ := F
  exact def_ofC (fs := r_last_place) F sc_last_place (fun h => len_last_place h) (fun f A outer s H E hr => by
    have nd := sc_last_place.nd
    exact (pds_one (pds_ret (pd_op bd_sub (pd_call d_power hr (pda_cons (pd_var 0) pda_nil)) pd_int)))) rd_last_place
abbrev s_halved : Stmt := topS 36
theorem sc_halved : FnScope n_halved ["place"] (defScope s_halved) := ⟨rfl, rfl, rfl, by decide +kernel, rfl, by decide +kernel, by decide +kernel⟩
theorem ok_halved (U : Glob K mg cs) (F : FnAt K mg "halved" s_halved ["place"]) : Def P w K mg base T 1 "halved" sp_halved := by
  obtain ⟨c, F⟩ := F
  exact def_ofC (fs := r_halved) F sc_halved (fun h => len_halved h) (fun f A outer s H E hr => by
    have nd := sc_halved.nd
    exact (pds_cons (pds_set (i := 1) nd pd_int)
    (pds_cons (pds_while (pdt_cmp cd_eq (pd_op bd_mod (pd_var 0) pd_int) pd_int (nomark _)) (pds_one (pds_par (i := 0) (j := 1) rfl nd (pda_cons (pd_op bd_div (pd_var 0) pd_int) (pda_cons (pd_op bd_add (pd_var 1) pd_int) pda_nil)))))
    (pds_one (pds_ret (pd_tup (pda_cons (pd_var 1) (pda_cons (pd_var 0) pda_nil)))))))) rd_halved
abbrev s_crease_by : Stmt := topS 37
theorem sc_crease_by : FnScope n_crease_by ["folds", "place"] (defScope s_crease_by) := ⟨rfl, rfl, rfl, by decide +kernel, rfl, by decide +kernel, by decide +kernel⟩
theorem ok_crease_by (U : Glob K mg cs) (d_halved : Def P w K mg base T 1 "halved" sp_halved) (F : FnAt K mg "crease_by" s_crease_by ["folds", "place"]) : Def P w K mg base T 2 "crease_by" sp_crease_by := by
  obtain ⟨c, F⟩ := F
  exact def_ofC (fs := r_crease_by) F sc_crease_by (fun h => len_crease_by h) (fun f A outer s H E hr => by
    have nd := sc_crease_by.nd
    exact (pds_cons (pds_asg (pd_call d_halved hr (pda_cons (pd_var 1) pda_nil)) (pdg_tup rfl (pdgs_cons (pdg_name (i := 3) nd) (pdgs_cons (pdg_name (i := 4) nd) pdgs_nil))))
    (pds_cons (pds_set (i := 2) nd (pd_cmp cd_eq (pd_ix (pd_var 0) (pd_op bd_sub (pd_op bd_sub (pd_callB bt_len U.m_len (by decide +kernel) (pda_cons (pd_var 0) pda_nil)) pd_int) (pd_var 3))) (pd_gstr U.c_OVER) (nomark _)))
    (pds_one (pds_ret (pd_if (pdt_cmp cd_eq (pd_var 2) (pd_cmp cd_eq (pd_op bd_mod (pd_var 4) pd_int) pd_int (nomark _)) (nomark _)) (pd_gstr U.c_VALLEY) (pd_gstr U.c_HILL))))))) rd_crease_by
abbrev s_row_by : Stmt := topS 38
theorem sc_row_by : FnScope n_row_by ["folds", "place", "length"] (defScope s_row_by) := ⟨rfl, rfl, rfl, by decide +kernel, rfl, by decide +kernel, by decide +kernel⟩
theorem ok_row_by (U : Glob K mg cs) (d_crease_by : Def P w K mg base T 2 "crease_by" sp_crease_by) (F : FnAt K mg "row_by" s_row_by ["folds", "place", "length"]) : Def P w K mg base T 3 "row_by" sp_row_by := by
  obtain ⟨c, F⟩ := F
  exact def_ofC (fs := r_row_by) F sc_row_by (fun h => len_row_by h) (fun f A outer s H E hr => by
    have nd := sc_row_by.nd
    exact (pds_one (pds_ret (pd_join pd_str (pd_imm (pdl_comp (j := 3) rfl nd (pdi_range2W U.m_range (pda_cons (pd_var 1) (pda_cons (pd_op bd_add (pd_var 1) (pd_var 2)) pda_nil))) (blkOk_by (N := n_row_by) (sc := defScope s_row_by) (by decide +kernel)) (fun _ _ _ _ _ => by first | exact pg_name (i := 3) nd rfl (Or.inl rfl) | exact pg_name (i := 3) nd rfl (Or.inr rfl)) (fun _ _ _ _ _ => pdts_nil) (fun _ _ _ _ _ => (pd_call d_crease_by hr (pda_cons (pd_var 0) (pda_cons (pd_var 3) pda_nil)))))))))) rd_row_by
abbrev s_valleys_by : Stmt := topS 39
theorem sc_valleys_by : FnScope n_valleys_by ["folds", "place"] (defScope s_valleys_by) := ⟨rfl, rfl, rfl, by decide +kernel, rfl, by decide +kernel, by decide +kernel⟩
theorem ok_valleys_by (U : Glob K mg cs) (F : FnAt K mg "valleys_by" s_valleys_by ["folds", "place"]) : Def P w K mg base T 1 "valleys_by" sp_valleys_by := by
  obtain ⟨c, F⟩ := F
  exact def_ofC (fs := r_valleys_by) F sc_valleys_by (fun h => len_valleys_by h) (fun f A outer s H E hr => by
    have nd := sc_valleys_by.nd
    exact (pds_cons (pds_par (i := 3) (j := 4) rfl nd (pda_cons pd_int (pda_cons (pd_var 1) pda_nil)))
    (pds_cons (pds_for rfl (pdi_tup (pd_rev (pd_var 0))) (pdg_name (i := 2) nd) (pds_cons (pds_set (i := 3) nd (pd_op bd_add (pd_var 3) (pd_if (pdt_cmp cd_eq (pd_var 2) (pd_gstr U.c_OVER) (nomark _)) (pd_op bd_div (pd_op bd_add (pd_var 4) pd_int) pd_int) (pd_op bd_div (pd_op bd_add (pd_var 4) pd_int) pd_int))))
    (pds_one (pds_set (i := 4) nd (pd_op bd_div (pd_var 4) pd_int)))))
    (pds_one (pds_ret (pd_var 3)))))) rd_valleys_by
abbrev s_need_place : Stmt := topS 40
theorem sc_need_place : FnScope n_need_place ["many", "place"] (defScope s_need_place) := ⟨rfl, rfl, rfl, by decide +kernel, rfl, by decide +kernel, by decide +kernel⟩
theorem ok_need_place (U : Glob K mg cs) (d_is_integer : Def P w K mg base T 1 "is_integer" sp_is_integer) (d_last_place : Def P w K mg base T 2 "last_place" sp_last_place) (F : FnAt K mg "need_place" s_need_place ["many", "place"]) : Def P w K mg base T 3 "need_place" sp_need_place := by
  obtain ⟨c, F⟩ := F
  exact def_ofC (fs := r_need_place) F sc_need_place (fun h => len_need_place h) (fun f A outer s H E hr => by
    have nd := sc_need_place.nd
    exact (pds_one (pds_if (pdt_not (pdt_val (pd_call d_is_integer hr (pda_cons (pd_var 1) (pda_cons pd_int (pda_cons (pd_call d_last_place hr (pda_cons (pd_var 0) pda_nil)) pda_nil)))))) (pds_one (pds_raise rfl U.e_InvalidPlace)) pds_nil))) rd_need_place
abbrev s_need_strip : Stmt := topS 41
theorem sc_need_strip : FnScope n_need_strip ["recipe", "many"] (defScope s_need_strip) := ⟨rfl, rfl, rfl, by decide +kernel, rfl, by decide +kernel, by decide +kernel⟩
theorem ok_need_strip (U : Glob K mg cs) (d_need_recipe : Def P w K mg base T 4 "need_recipe" sp_need_recipe) (d_need_many : Def P w K mg base T 2 "need_many" sp_need_many) (F : FnAt K mg "need_strip" s_need_strip ["recipe", "many"]) : Def P w K mg base T 5 "need_strip" sp_need_strip := by
  obtain ⟨c, F⟩ := F
  exact def_ofC (fs := r_need_strip) F sc_need_strip (fun h => len_need_strip h) (fun f A outer s H E hr => by
    have nd := sc_need_strip.nd
    exact (pds_cons (pds_expr (pd_call d_need_recipe hr (pda_cons (pd_var 0) pda_nil)))
    (pds_one (pds_expr (pd_call d_need_many hr (pda_cons (pd_var 1) pda_nil)))))) rd_need_strip
abbrev s_crease : Stmt := topS 42
theorem sc_crease : FnScope n_crease ["recipe", "many", "place"] (defScope s_crease) := ⟨rfl, rfl, rfl, by decide +kernel, rfl, by decide +kernel, by decide +kernel⟩
theorem ok_crease (U : Glob K mg cs) (d_need_strip : Def P w K mg base T 5 "need_strip" sp_need_strip) (d_need_place : Def P w K mg base T 3 "need_place" sp_need_place) (d_crease_by : Def P w K mg base T 2 "crease_by" sp_crease_by) (d_folds_of : Def P w K mg base T 2 "folds_of" sp_folds_of) (F : FnAt K mg "crease" s_crease ["recipe", "many", "place"]) : Def P w K mg base T 6 "crease" sp_crease := by
  obtain ⟨c, F⟩ := F
  exact def_ofC (fs := r_crease) F sc_crease (fun h => len_crease h) (fun f A outer s H E hr => by
    have nd := sc_crease.nd
    exact (pds_cons (pds_expr (pd_call d_need_strip hr (pda_cons (pd_var 0) (pda_cons (pd_var 1) pda_nil))))
    (pds_cons (pds_expr (pd_call d_need_place hr (pda_cons (pd_var 1) (pda_cons (pd_var 2) pda_nil))))
    (pds_one (pds_ret (pd_call d_crease_by hr (pda_cons (pd_call d_folds_of hr (pda_cons (pd_var 0) (pda_cons (pd_var 1) pda_nil))) (pda_cons (pd_var 2) pda_nil)))))))) rd_crease
abbrev s_row : Stmt := topS 43
theorem sc_row : FnScope n_row ["recipe", "many", "place", "length"] (defScope s_row) := ⟨rfl, rfl, rfl, by decide +kernel, rfl, by decide +kernel, by decide +kernel⟩
theorem ok_row (U : Glob K mg cs) (d_need_strip : Def P w K mg base T 5 "need_strip" sp_need_strip) (d_need_place : Def P w K mg base T 3 "need_place" sp_need_place) (d_is_integer : Def P w K mg base T 1 "is_integer" sp_is_integer) (d_last_place : Def P w K mg base T 2 "last_place" sp_last_place) (d_row_by : Def P w K mg base T 3 "row_by" sp_row_by) (d_folds_of : Def P w K mg base T 2 "folds_of" sp_folds_of) (F : FnAt K mg "row" s_row ["recipe", "many", "place", "length"]) : Def P w K mg base T 6 "row" sp_row := by
  obtain ⟨c, F⟩ := F
  exact def_ofC (fs := r_row) F sc_row (fun h => len_row h) (fun f A outer s H E hr => by
    have nd := sc_row.nd
    exact (pds_cons (pds_expr (pd_call d_need_strip hr (pda_cons (pd_var 0) (pda_cons (pd_var 1) pda_nil))))
    (pds_cons (pds_expr (pd_call d_need_place hr (pda_cons (pd_var 1) (pda_cons (pd_var 2) pda_nil))))
    (pds_cons (pds_if (pdt_w (pdw_or (pdt_not (pdt_val (pd_call d_is_integer hr (pda_cons (pd_var 3) (pda_cons pd_int (pda_cons (pd_gint U.c_MOST_IN_ROW) pda_nil)))))) (pdw_or1 (pdt_cmp cd_gt (pd_op bd_sub (pd_op bd_add (pd_var 2) (pd_var 3)) pd_int) (pd_call d_last_place hr (pda_cons (pd_var 1) pda_nil)) (nomark _))))) (pds_one (pds_raise rfl U.e_InvalidNumber)) pds_nil)
    (pds_one (pds_ret (pd_call d_row_by hr (pda_cons (pd_call d_folds_of hr (pda_cons (pd_var 0) (pda_cons (pd_var 1) pda_nil))) (pda_cons (pd_var 2) (pda_cons (pd_var 3) pda_nil)))))))))) rd_row
abbrev s_valleys : Stmt := topS 44
theorem sc_valleys : FnScope n_valleys ["recipe", "many", "place"] (defScope s_valleys) := ⟨rfl, rfl, rfl, by decide +kernel, rfl, by decide +kernel, by decide +kernel⟩
theorem ok_valleys (U : Glob K mg cs) (d_need_strip : Def P w K mg base T 5 "need_strip" sp_need_strip) (d_need_place : Def P w K mg base T 3 "need_place" sp_need_place) (d_valleys_by : Def P w K mg base T 1 "valleys_by" sp_valleys_by) (d_folds_of : Def P w K mg base T 2 "folds_of" sp_folds_of) (F : FnAt K mg "valleys" s_valleys ["recipe", "many", "place"]) : Def P w K mg base T 6 "valleys" sp_valleys := by
  obtain ⟨c, F⟩ := F
  exact def_ofC (fs := r_valleys) F sc_valleys (fun h => len_valleys h) (fun f A outer s H E hr => by
    have nd := sc_valleys.nd
    exact (pds_cons (pds_expr (pd_call d_need_strip hr (pda_cons (pd_var 0) (pda_cons (pd_var 1) pda_nil))))
    (pds_cons (pds_expr (pd_call d_need_place hr (pda_cons (pd_var 1) (pda_cons (pd_var 2) pda_nil))))
    (pds_one (pds_ret (pd_call d_valleys_by hr (pda_cons (pd_call d_folds_of hr (pda_cons (pd_var 0) (pda_cons (pd_var 1) pda_nil))) (pda_cons (pd_var 2) pda_nil)))))))) rd_valleys
abbrev s_law_sheet : Stmt := topS 46
theorem sc_law_sheet : FnScope n_law_sheet ["_law_script", "_law_k"] (defScope s_law_sheet) := ⟨rfl, rfl, rfl, by decide +kernel, rfl, by decide +kernel, by decide +kernel⟩
theorem ok_law_sheet (U : Glob K mg cs) (F : FnAt K mg "_law_sheet" s_law_sheet ["_law_script", "_law_k"]) : Def P w K mg base T 1 "_law_sheet" sp_law_sheet := by
  obtain ⟨c, F⟩ := F
  exact def_ofC (fs := r_law_sheet) F sc_law_sheet (fun h => len_law_sheet h) (fun f A outer s H E hr => by
    have nd := sc_law_sheet.nd
    exact (pds_cons (pds_set (i := 2) nd (pd_if (pdt_cmp cd_lt (pd_var 1) (pd_callB bt_len U.m_len (by decide +kernel) (pda_cons (pd_var 0) pda_nil)) (nomark _)) (pd_callB bt_abs U.m_abs (by decide +kernel) (pda_cons (pd_callTy bt_int U.m_int (by decide +kernel) (pda_cons (pd_ix (pd_var 0) (pd_var 1)) pda_nil)) pda_nil)) (pd_op bd_add (pd_op bd_mul pd_int (pd_var 1)) pd_int)))
    (pds_one (pds_ret (pd_lstM (pda_cons (pd_if (pdt_cmp cd_ge (pd_var 2) (pd_op bd_pow pd_int pd_int) (nomark _)) (pd_var 2) pd_int) (pda_cons (pd_op bd_add (pd_op bd_mod (pd_callTy bt_int U.m_int (by decide +kernel) (pda_cons (pd_op bd_add (pd_op bd_add (pd_op bd_mul (pd_var 2) pd_int) (pd_op bd_mul pd_int (pd_var 1))) pd_int) pda_nil)) pd_int) pd_int) pda_nil))))))) rd_law_sheet
abbrev s_law_tear : Stmt := topS 47
theorem sc_law_tear : FnScope n_law_tear ["_law_sheet_here", "_law_many"] (defScope s_law_tear) := ⟨rfl, rfl, rfl, by decide +kernel, rfl, by decide +kernel, by decide +kernel⟩
theorem ok_law_tear (U : Glob K mg cs) (F : FnAt K mg "_law_tear" s_law_tear ["_law_sheet_here", "_law_many"]) : Def P w K mg base T 1 "_law_tear" sp_law_tear := by
  obtain ⟨c, F⟩ := F
  exact def_ofC (fs := r_law_tear) F sc_law_tear (fun h => len_law_tear h) (fun f A outer s H E hr => by
    have nd := sc_law_tear.nd
    exact (pds_cons (pds_if (pdt_cmp cd_gt (pd_ix (pd_var 0) pd_int) pd_int (nomark _)) (pds_cons (pds_set (i := 3) nd (pd_op bd_mod (pd_callTy bt_int U.m_int (by decide +kernel) (pda_cons (pd_ix (pd_var 0) pd_int) pda_nil)) (pd_var 1)))
    (pds_cons (pds_asg (pd_op bd_div (pd_ix (pd_var 0) pd_int) (pd_var 1)) (pdg_subL (pd_var 0) pd_int))
    (pds_one (pds_ret (pd_var 3))))) pds_nil)
    (pds_cons (pds_asg (pd_op bd_mod (pd_callTy bt_int U.m_int (by decide +kernel) (pda_cons (pd_op bd_add (pd_op bd_mul (pd_ix (pd_var 0) pd_int) pd_int) pd_int) pda_nil)) pd_int) (pdg_subL (pd_var 0) pd_int))
    (pds_cons (pds_set (i := 2) nd (pd_op bd_mod (pd_callTy bt_int U.m_int (by decide +kernel) (pda_cons (pd_op bd_mul (pd_ix (pd_var 0) pd_int) (pd_op bd_add (pd_op bd_div (pd_ix (pd_var 0) pd_int) pd_int) pd_int)) pda_nil)) pd_int))
    (pds_one (pds_ret (pd_op bd_mod (pd_callTy bt_int U.m_int (by decide +kernel) (pda_cons (pd_op bd_div (pd_var 2) pd_int) pda_nil)) (pd_var 1)))))))) rd_law_tear
abbrev s_law_pick : Stmt := topS 48
theorem sc_law_pick : FnScope n_law_pick ["_law_sheet_here", "_law_things"] (defScope s_law_pick) := ⟨rfl, rfl, rfl, by decide +kernel, rfl, by decide +kernel, by decide +kernel⟩
theorem ok_law_pick (U : Glob K mg cs) (d__law_tear : Def P w K mg base T 1 "_law_tear" sp_law_tear) (F : FnAt K mg "_law_pick" s_law_pick ["_law_sheet_here", "_law_things"]) : Def P w K mg base T 2 "_law_pick" sp_law_pick := by
  obtain ⟨c, F⟩ := F
  exact def_ofC (fs := r_law_pick) F sc_law_pick (fun h => len_law_pick h) (fun f A outer s H E hr => by
    have nd := sc_law_pick.nd
    exact (pds_one (pds_ret (pd_ix (pd_var 1) (pd_call d__law_tear hr (pda_cons (pd_var 0) (pda_cons (pd_callB bt_len U.m_len (by decide +kernel) (pda_cons (pd_var 1) pda_nil)) pda_nil))))))) rd_law_pick
abbrev s_law_folds : Stmt := topS 49
theorem sc_law_folds : FnScope n_law_folds ["_law_sheet_here", "_law_many"] (defScope s_law_folds) := ⟨rfl, rfl, rfl, by decide +kernel, rfl, by decide +kernel, by decide +kernel⟩
theorem ok_law_folds (U : Glob K mg cs) (d__law_pick : Def P w K mg base T 2 "_law_pick" sp_law_pick) (F : FnAt K mg "_law_folds" s_law_folds ["_law_sheet_here", "_law_many"]) : Def P w K mg base T 3 "_law_folds" sp_law_folds := by
  obtain ⟨c, F⟩ := F
  exact def_ofC (fs := r_law_folds) F sc_law_folds (fun h => len_law_folds h) (fun f A outer s H E hr => by
    have nd := sc_law_folds.nd
    exact (pds_one (pds_ret (pd_callTy bt_tuple U.m_tuple (by decide +kernel) (pda_cons (pd_imm (pdl_comp (j := 2) rfl nd (pdi_range1 U.m_range (pda_cons (pd_var 1) pda_nil)) (blkOk_by (N := n_law_folds) (sc := defScope s_law_folds) (by decide +kernel)) (fun _ _ _ _ _ => by first | exact pg_name (i := 2) nd rfl (Or.inl rfl) | exact pg_name (i := 2) nd rfl (Or.inr rfl)) (fun _ _ _ _ _ => pdts_nil) (fun _ _ _ _ _ => (pd_call d__law_pick hr (pda_cons (pd_var 0) (pda_cons (pd_lst (pda_cons pd_str (pda_cons pd_str pda_nil))) pda_nil)))))) pda_nil))))) rd_law_folds
abbrev s_law_any_recipe : Stmt := topS 50
theorem sc_law_any_recipe : FnScope n_law_any_recipe ["_law_sheet_here", "_law_most"] (defScope s_law_any_recipe) := ⟨rfl, rfl, rfl, by decide +kernel, rfl, by decide +kernel, by decide +kernel⟩
theorem ok_law_any_recipe (U : Glob K mg cs) (d__law_folds : Def P w K mg base T 3 "_law_folds" sp_law_folds) (d__law_tear : Def P w K mg base T 1 "_law_tear" sp_law_tear) (F : FnAt K mg "_law_any_recipe" s_law_any_recipe ["_law_sheet_here", "_law_most"]) : Def P w K mg base T 4 "_law_any_recipe" sp_law_any_recipe := by
  obtain ⟨c, F⟩ := F
  exact def_ofC (fs := r_law_any_recipe) F sc_law_any_recipe (fun h => len_law_any_recipe h) (fun f A outer s H E hr => by
    have nd := sc_law_any_recipe.nd
    exact (pds_one (pds_ret (pd_tup (pda_cons (pd_call d__law_folds hr (pda_cons (pd_var 0) (pda_cons (pd_call d__law_tear hr (pda_cons (pd_var 0) (pda_cons (pd_op bd_add (pd_var 1) pd_int) pda_nil))) pda_nil))) (pda_cons (pd_call d__law_folds hr (pda_cons (pd_var 0) (pda_cons (pd_op bd_add pd_int (pd_call d__law_tear hr (pda_cons (pd_var 0) (pda_cons (pd_var 1) pda_nil)))) pda_nil))) pda_nil)))))) rd_law_any_recipe
abbrev s_law_first : Stmt := topS 51
theorem sc_law_first : FnScope n_law_first ["_law_recipe", "_law_many"] (defScope s_law_first) := ⟨rfl, rfl, rfl, by decide +kernel, rfl, by decide +kernel, by decide +kernel⟩
theorem ok_law_first (U : Glob K mg cs) (F : FnAt K mg "_law_first" s_law_first ["_law_recipe", "_law_many"]) : Def P w K mg base T 1 "_law_first" sp_law_first := by
  obtain ⟨c, F⟩ := F
  exact def_ofC (fs := r_law_first) F sc_law_first (fun h => len_law_first h) (fun f A outer s H E hr => by
    have nd := sc_law_first.nd
    exact (pds_cons (pds_set (i := 2) nd (pd_ix (pd_var 0) pd_int))
    (pds_cons (pds_while (pdt_cmp cd_lt (pd_callB bt_len U.m_len (by decide +kernel) (pda_cons (pd_var 2) pda_nil)) (pd_var 1) (nomark _)) (pds_one (pds_set (i := 2) nd (pd_op bd_add (pd_var 2) (pd_ix (pd_var 0) pd_int)))))
    (pds_one (pds_ret (pd_slice (pd_var 2) pdo_none (pdo_some (pd_var 1)))))))) rd_law_first
abbrev s_law_other : Stmt := topS 52
theorem sc_law_other : FnScope n_law_other ["_law_strand"] (defScope s_law_other) := ⟨rfl, rfl, rfl, by decide +kernel, rfl, by decide +kernel, by decide +kernel⟩
theorem ok_law_other (U : Glob K mg cs) (F : FnAt K mg "_law_other" s_law_other ["_law_strand"]) : Def P w K mg base T 1 "_law_other" sp_law_other := by
  obtain ⟨c, F⟩ := F
  exact def_ofC (fs := r_law_other) F sc_law_other (fun h => len_law_other h) (fun f A outer s H E hr => by
    have nd := sc_law_other.nd
    exact (pds_one (pds_ret (pd_join pd_str (pd_imm (pdl_comp (j := 1) rfl nd (pdi_str (pd_var 0)) (blkOk_by (N := n_law_other) (sc := defScope s_law_other) (by decide +kernel)) (fun _ _ _ _ _ => by first | exact pg_name (i := 1) nd rfl (Or.inl rfl) | exact pg_name (i := 1) nd rfl (Or.inr rfl)) (fun _ _ _ _ _ => pdts_nil) (fun _ _ _ _ _ => (pd_if (pdt_cmp cd_eq (pd_var 1) pd_str (nomark _)) pd_str pd_str)))))))) rd_law_other
abbrev s_law_strip : Stmt := topS 53
theorem sc_law_strip : FnScope n_law_strip ["_law_folds_here"] (defScope s_law_strip) := ⟨rfl, rfl, rfl, by decide +kernel, rfl, by decide +kernel, by decide +kernel⟩
theorem ok_law_strip (U : Glob K mg cs) (d__law_other : Def P w K mg base T 1 "_law_other" sp_law_other) (F : FnAt K mg "_law_strip" s_law_strip ["_law_folds_here"]) : Def P w K mg base T 2 "_law_strip" sp_law_strip := by
  obtain ⟨c, F⟩ := F
  exact def_ofC (fs := r_law_strip) F sc_law_strip (fun h => len_law_strip h) (fun f A outer s H E hr => by
    have nd := sc_law_strip.nd
    exact (pds_cons (pds_set (i := 1) nd pd_str)
    (pds_cons (pds_for rfl (pdi_tup (pd_rev (pd_var 0))) (pdg_name (i := 2) nd) (pds_one (pds_set (i := 1) nd (pd_op bd_add (pd_op bd_add (pd_var 1) (pd_if (pdt_cmp cd_eq (pd_var 2) pd_str (nomark _)) pd_str pd_str)) (pd_call d__law_other hr (pda_cons (pd_rev (pd_var 1)) pda_nil))))))
    (pds_one (pds_ret (pd_var 1)))))) rd_law_strip
abbrev s_law_doubled : Stmt := topS 54
theorem sc_law_doubled : FnScope n_law_doubled ["_law_many"] (defScope s_law_doubled) := ⟨rfl, rfl, rfl, by decide +kernel, rfl, by decide +kernel, by decide +kernel⟩
theorem ok_law_doubled (U : Glob K mg cs) (F : FnAt K mg "_law_doubled" s_law_doubled ["_law_many"]) : Def P w K mg base T 1 "_law_doubled" sp_law_doubled := by
  obtain ⟨c, F⟩ := F
  exact def_ofC (fs := r_law_doubled) F sc_law_doubled (fun h => len_law_doubled h) (fun f A outer s H E hr => by
    have nd := sc_law_doubled.nd
    exact (pds_cons (pds_set (i := 1) nd pd_int)
    (pds_cons (pds_for rfl (pdi_range1 U.m_range (pda_cons (pd_var 0) pda_nil)) (pdg_name (i := 2) nd) (pds_one (pds_set (i := 1) nd (pd_op bd_mul (pd_var 1) pd_int))))
    (pds_one (pds_ret (pd_var 1)))))) rd_law_doubled
abbrev s_law_crease : Stmt := topS 55
theorem sc_law_crease : FnScope n_law_crease ["_law_folds_here", "_law_place"] (defScope s_law_crease) := ⟨rfl, rfl, rfl, by decide +kernel, rfl, by decide +kernel, by decide +kernel⟩
theorem ok_law_crease (U : Glob K mg cs) (d__law_doubled : Def P w K mg base T 1 "_law_doubled" sp_law_doubled) (F : FnAt K mg "_law_crease" s_law_crease ["_law_folds_here", "_law_place"]) : Def P w K mg base T 2 "_law_crease" sp_law_crease := by
  obtain ⟨c, F⟩ := F
  exact def_ofC (fs := r_law_crease) F sc_law_crease (fun h => len_law_crease h) (fun f A outer s H E hr => by
    have nd := sc_law_crease.nd
    exact (pds_cons (pds_par (i := 3) (j := 4) rfl nd (pda_cons pd_bl (pda_cons (pd_op bd_div (pd_call d__law_doubled hr (pda_cons (pd_callB bt_len U.m_len (by decide +kernel) (pda_cons (pd_var 0) pda_nil)) pda_nil)) pd_int) pda_nil)))
    (pds_cons (pds_for rfl (pdi_tup (pd_var 0)) (pdg_name (i := 2) nd) (pds_cons (pds_if (pdt_cmp cd_eq (pd_var 1) (pd_var 4) (nomark _)) (pds_one (pds_ret (pd_if (pdt_cmp cd_ne (pd_cmp cd_eq (pd_var 2) pd_str (nomark _)) (pd_var 3) (nomark _)) pd_str pd_str))) pds_nil)
    (pds_cons (pds_if (pdt_cmp cd_gt (pd_var 1) (pd_var 4) (nomark _)) (pds_one (pds_par (i := 1) (j := 3) rfl nd (pda_cons (pd_op bd_sub (pd_op bd_mul pd_int (pd_var 4)) (pd_var 1)) (pda_cons (pd_not (pd_var 3)) pda_nil)))) pds_nil)
    (pds_one (pds_set (i := 4) nd (pd_op bd_div (pd_var 4) pd_int))))))
    (pds_one (pds_ret pd_str))))) rd_law_crease
abbrev s_law_are_folds : Stmt := topS 57
theorem sc_law_are_folds : FnScope n_law_are_folds ["_law_value", "_law_low", "_law_high"] (defScope s_law_are_folds) := ⟨rfl, rfl, rfl, by decide +kernel, rfl, by decide +kernel, by decide +kernel⟩
theorem ok_law_are_folds (U : Glob K mg cs) (F : FnAt K mg "_law_are_folds" s_law_are_folds ["_law_value", "_law_low", "_law_high"]) : Def P w K mg base T 1 "_law_are_folds" sp_law_are_folds := by
  obtain ⟨c, F⟩ := F
  exact def_ofC (fs := r_law_are_folds) F sc_law_are_folds (fun h => len_law_are_folds h) (fun f A outer s H E hr => by
    have nd := sc_law_are_folds.nd
    exact (pds_cons (pds_if (pdt_w (pdw_or (pdt_not (pdt_val (pd_callB bt_isi U.m_isinstance (by decide +kernel) (pda_cons (pd_var 0) (pda_cons (pd_ty U.m_tuple (by decide +kernel)) pda_nil))))) (pdw_or1 (pdt_not (pdt_chain cd_le cd_le (pd_var 1) (pd_callB bt_len U.m_len (by decide +kernel) (pda_cons (pd_var 0) pda_nil)) (pd_var 2)))))) (pds_one (pds_ret pd_bl)) pds_nil)
    (pds_one (pds_ret (pd_cmp cd_eq (pd_imm (pdl_comp (j := 3) rfl nd (pdi_tup (pd_var 0)) (blkOk_by (N := n_law_are_folds) (sc := defScope s_law_are_folds) (by decide +kernel)) (fun _ _ _ _ _ => by first | exact pg_name (i := 3) nd rfl (Or.inl rfl) | exact pg_name (i := 3) nd rfl (Or.inr rfl)) (fun _ _ _ _ _ => pdts_one (pdt_w (pdw_or (pdt_not (pdt_val (pd_callB bt_isi U.m_isinstance (by decide +kernel) (pda_cons (pd_var 3) (pda_cons (pd_ty U.m_str (by decide +kernel)) pda_nil))))) (pdw_or1 (pdt_cmp cd_notin (pd_var 3) (pd_lst (pda_cons pd_str (pda_cons pd_str pda_nil))) (by rfl)))))) (fun _ _ _ _ _ => (pd_var 3)))) (pd_lst pda_nil) (nomark _)))))) rd_law_are_folds
abbrev s_law_good_recipe : Stmt := topS 58
theorem sc_law_good_recipe : FnScope n_law_good_recipe ["_law_value"] (defScope s_law_good_recipe) := ⟨rfl, rfl, rfl, by decide +kernel, rfl, by decide +kernel, by decide +kernel⟩
theorem ok_law_good_recipe (U : Glob K mg cs) (d__law_are_folds : Def P w K mg base T 1 "_law_are_folds" sp_law_are_folds) (F : FnAt K mg "_law_good_recipe" s_law_good_recipe ["_law_value"]) : Def P w K mg base T 2 "_law_good_recipe" sp_law_good_recipe := by
  obtain ⟨c, F⟩ := F
  exact def_ofC (fs := r_law_good_recipe) F sc_law_good_recipe (fun h => len_law_good_recipe h) (fun f A outer s H E hr => by
    have nd := sc_law_good_recipe.nd
    exact (pds_cons (pds_if (pdt_w (pdw_or (pdt_not (pdt_val (pd_callB bt_isi U.m_isinstance (by decide +kernel) (pda_cons (pd_var 0) (pda_cons (pd_ty U.m_tuple (by decide +kernel)) pda_nil))))) (pdw_or1 (pdt_cmp cd_ne (pd_callB bt_len U.m_len (by decide +kernel) (pda_cons (pd_var 0) pda_nil)) pd_int (nomark _))))) (pds_one (pds_ret pd_bl)) pds_nil)
    (pds_one (pds_ret (pd_and (pd_call d__law_are_folds hr (pda_cons (pd_ix (pd_var 0) pd_int) (pda_cons pd_int (pda_cons pd_int pda_nil)))) (pd_one (pd_call d__law_are_folds hr (pda_cons (pd_ix (pd_var 0) pd_int) (pda_cons pd_int (pda_cons pd_int pda_nil)))))))))) rd_law_good_recipe
abbrev s_law_any_value : Stmt := topS 60
theorem sc_law_any_value : FnScope n_law_any_value ["_law_sheet_here", "_law_deep"] (defScope s_law_any_value) := ⟨rfl, rfl, rfl, by decide +kernel, rfl, by decide +kernel, by decide +kernel⟩
theorem ok_law_any_value (U : Glob K mg cs) (n : Nat) (d__law_tear : Def P w K mg base T 1 "_law_tear" sp_law_tear) (d__law_pick : Def P w K mg base T 2 "_law_pick" sp_law_pick) (d__law_any_value : Def P w K mg base T (2 + n) "_law_any_value" (sp_law_any_value n)) (F : FnAt K mg "_law_any_value" s_law_any_value ["_law_sheet_here", "_law_deep"]) : Def P w K mg base T (2 + n + 1) "_law_any_value" (sp_law_any_value (n + 1)) := by
  obtain ⟨c, F⟩ := F
  exact def_ofC (fs := r_law_any_value n) F sc_law_any_value (fun h => len_law_any_value h) (fun f A outer s H E hr => by
    have nd := sc_law_any_value.nd
    exact (pds_cons (pds_set (i := 2) nd (pd_lst (pda_cons pd_non (pda_cons pd_bl (pda_cons pd_bl (pda_cons pd_int (pda_cons pd_int (pda_cons pd_int (pda_cons pd_int (pda_cons (pd_neg pd_int) (pda_cons (pd_op bd_pow pd_int pd_int) (pda_cons (pd_op bd_add (pd_op bd_pow pd_int pd_int) pd_int) (pda_cons pd_str (pda_cons pd_str (pda_cons pd_str (pda_cons pd_str (pda_cons pd_str (pda_cons pd_str (pda_cons (pd_tup pda_nil) (pda_cons (pd_lst pda_nil) pda_nil))))))))))))))))))))
    (pds_cons (pds_set (i := 2) nd (pd_op bd_add (pd_var 2) (pd_lst (pda_cons (pd_tup (pda_cons pd_str pda_nil)) (pda_cons (pd_tup (pda_cons pd_str (pda_cons pd_str pda_nil))) (pda_cons (pd_tup (pda_cons (pd_tup pda_nil) (pda_cons (pd_tup (pda_cons pd_str pda_nil)) pda_nil))) (pda_cons (pd_tup (pda_cons pd_int (pda_cons pd_str pda_nil))) (pda_cons (pd_tup (pda_cons (pd_tup (pda_cons pd_int (pda_cons pd_str pda_nil))) (pda_cons (pd_tup (pda_cons pd_int (pda_cons pd_str pda_nil))) pda_nil))) (pda_cons (pd_tup (pda_cons pd_int (pda_cons pd_int pda_nil))) (pda_cons pd_str (pda_cons (pd_lst (pda_cons pd_int (pda_cons pd_int pda_nil))) pda_nil)))))))))))
    (pds_cons (pds_if (pdt_w (pdw_or (pdt_cmp cd_eq (pd_var 1) pd_int (nomark _)) (pdw_or1 (pdt_cmp cd_lt (pd_call d__law_tear hr (pda_cons (pd_var 0) (pda_cons pd_int pda_nil)) (by omega)) pd_int (nomark _))))) (pds_one (pds_ret (pd_call d__law_pick hr (pda_cons (pd_var 0) (pda_cons (pd_var 2) pda_nil)) (by omega)))) pds_nil)
    (pds_cons (pds_setComp (j := 4) (i := 3) rfl nd (pdi_range1 U.m_range (pda_cons (pd_call d__law_tear hr (pda_cons (pd_var 0) (pda_cons pd_int pda_nil)) (by omega)) pda_nil)) (blkOk_by (N := n_law_any_value) (sc := defScope s_law_any_value) (by decide +kernel)) (fun _ _ _ _ _ => by first | exact pg_name (i := 4) nd rfl (Or.inl rfl) | exact pg_name (i := 4) nd rfl (Or.inr rfl)) (fun _ _ _ _ _ => pdts_nil) (fun _ _ _ _ _ => (pd_call d__law_any_value hr (pda_cons (pd_var 0) (pda_cons (pd_op bd_sub (pd_var 1) pd_int) pda_nil)) (by omega))) (sw_true rfl rfl rfl (by decide +kernel)))
    (pds_one (pds_ret (pd_if (pdt_cmp cd_eq (pd_call d__law_tear hr (pda_cons (pd_var 0) (pda_cons pd_int pda_nil)) (by omega)) pd_int (nomark _)) (pd_var 3) (pd_callTy bt_tuple U.m_tuple (by decide +kernel) (pda_cons (pd_var 3) pda_nil)))))))))) (rd_law_any_value n)
abbrev s_law_bent : Stmt := topS 61
theorem sc_law_bent : FnScope n_law_bent ["_law_sheet_here", "_law_value"] (defScope s_law_bent) := ⟨rfl, rfl, rfl, by decide +kernel, rfl, by decide +kernel, by decide +kernel⟩
theorem ok_law_bent (U : Glob K mg cs) (n : Nat) (d__law_tear : Def P w K mg base T 1 "_law_tear" sp_law_tear) (d__law_any_value : Def P w K mg base T 4 "_law_any_value" (sp_law_any_value 2)) (d__law_pick : Def P w K mg base T 2 "_law_pick" sp_law_pick) (d__law_bent : Def P w K mg base T (4 + n) "_law_bent" (sp_law_bent n)) (F : FnAt K mg "_law_bent" s_law_bent ["_law_sheet_here", "_law_value"]) : Def P w K mg base T (4 + n + 1) "_law_bent" (sp_law_bent (n + 1)) := by
  obtain ⟨c, F⟩ := F
  exact def_ofC (fs := r_law_bent n) F sc_law_bent (fun h => len_law_bent h) (fun f A outer s H E hr => by
    have nd := sc_law_bent.nd
    exact (pds_cons (pds_if (pdt_w (pdw_or (pdt_not (pdt_val (pd_callB bt_isi U.m_isinstance (by decide +kernel) (pda_cons (pd_var 1) (pda_cons (pd_ty U.m_tuple (by decide +kernel)) pda_nil))))) (pdw_or (pdt_cmp cd_eq (pd_var 1) (pd_tup pda_nil) (nomark _)) (pdw_or1 (pdt_cmp cd_eq (pd_call d__law_tear hr (pda_cons (pd_var 0) (pda_cons pd_int pda_nil)) (by omega)) pd_int (nomark _)))))) (pds_cons (pds_set (i := 2) nd (pd_lst (pda_cons (pd_call d__law_any_value hr (pda_cons (pd_var 0) (pda_cons pd_int pda_nil)) (by omega)) (pda_cons (pd_call d__law_any_value hr (pda_cons (pd_var 0) (pda_cons pd_int pda_nil)) (by omega)) pda_nil))))
    (pds_cons (pds_if (pdt_val (pd_callB bt_isi U.m_isinstance (by decide +kernel) (pda_cons (pd_var 1) (pda_cons (pd_ty U.m_str (by decide +kernel)) pda_nil)))) (pds_one (pds_set (i := 2) nd (pd_op bd_add (pd_var 2) (pd_lst (pda_cons pd_str (pda_cons pd_str (pda_cons pd_str (pda_cons pd_str (pda_cons pd_str (pda_cons (pd_op bd_add (pd_var 1) pd_str) pda_nil)))))))))) (pds_one (pds_if (pdt_val (pd_callB bt_isi U.m_isinstance (by decide +kernel) (pda_cons (pd_var 1) (pda_cons (pd_ty U.m_int (by decide +kernel)) pda_nil)))) (pds_one pds_never) pds_nil)))
    (pds_one (pds_ret (pd_call d__law_pick hr (pda_cons (pd_var 0) (pda_cons (pd_var 2) pda_nil)) (by omega)))))) pds_nil)
    (pds_cons (pds_par (i := 3) (j := 4) rfl nd (pda_cons (pd_call d__law_tear hr (pda_cons (pd_var 0) (pda_cons (pd_callB bt_len U.m_len (by decide +kernel) (pda_cons (pd_var 1) pda_nil)) pda_nil)) (by omega)) (pda_cons (pd_call d__law_tear hr (pda_cons (pd_var 0) (pda_cons pd_int pda_nil)) (by omega)) pda_nil)))
    (pds_cons (pds_if (pdt_cmp cd_eq (pd_var 4) pd_int (nomark _)) (pds_one (pds_ret (pd_op bd_add (pd_slice (pd_var 1) pdo_none (pdo_some (pd_var 3))) (pd_slice (pd_var 1) (pdo_some (pd_op bd_add (pd_var 3) pd_int)) pdo_none)))) pds_nil)
    (pds_cons (pds_if (pdt_cmp cd_eq (pd_var 4) pd_int (nomark _)) (pds_one (pds_ret (pd_op bd_add (pd_slice (pd_var 1) pdo_none (pdo_some (pd_op bd_add (pd_var 3) pd_int))) (pd_slice (pd_var 1) (pdo_some (pd_var 3)) pdo_none)))) pds_nil)
    (pds_cons (pds_if (pdt_cmp cd_eq (pd_var 4) pd_int (nomark _)) (pds_one (pds_ret (pd_rev (pd_var 1)))) pds_nil)
    (pds_cons (pds_if (pdt_cmp cd_eq (pd_var 4) pd_int (nomark _)) (pds_one (pds_ret (pd_callTy bt_list U.m_list (by decide +kernel) (pda_cons (pd_var 1) pda_nil)))) pds_nil)
    (pds_one (pds_ret (pd_op bd_add (pd_op bd_add (pd_slice (pd_var 1) pdo_none (pdo_some (pd_var 3))) (pd_tup (pda_cons (pd_call d__law_bent hr (pda_cons (pd_var 0) (pda_cons (pd_ix (pd_var 1) (pd_var 3)) pda_nil)) (by omega)) pda_nil))) (pd_slice (pd_var 1) (pdo_some (pd_op bd_add (pd_var 3) pd_int)) pdo_none))))))))))) (rd_law_bent n)
abbrev s_law_small_right : Stmt := topS 64
theorem sc_law_small_right : FnScope n_law_small_right ["_law_recipe", "_law_many"] (defScope s_law_small_right) := ⟨rfl, rfl, rfl, by decide +kernel, rfl, by decide +kernel, by decide +kernel⟩
theorem ok_law_small_right (U : Glob K mg cs) (d__law_strip : Def P w K mg base T 2 "_law_strip" sp_law_strip) (d__law_first : Def P w K mg base T 1 "_law_first" sp_law_first) (d_crease : Def P w K mg base T 6 "crease" sp_crease) (d__law_doubled : Def P w K mg base T 1 "_law_doubled" sp_law_doubled) (d_valleys : Def P w K mg base T 6 "valleys" sp_valleys) (d_row : Def P w K mg base T 6 "row" sp_row) (F : FnAt K mg "_law_small_right" s_law_small_right ["_law_recipe", "_law_many"]) : Def P w K mg base T 7 "_law_small_right" sp_law_small_right := by
  obtain ⟨c, F⟩ := F
  exact def_ofC (fs := r_law_small_right) F sc_law_small_right (fun h => len_law_small_right h) (fun f A outer s H E hr => by
    have nd := sc_law_small_right.nd
    exact (pds_cons (pds_set (i := 2) nd (pd_call d__law_strip hr (pda_cons (pd_call d__law_first hr (pda_cons (pd_var 0) (pda_cons (pd_var 1) pda_nil))) pda_nil)))
    (pds_cons (pds_set (i := 3) nd (pd_join pd_str (pd_imm (pdl_comp (j := 4) rfl nd (pdi_range2W U.m_range (pda_cons pd_int (pda_cons (pd_op bd_add (pd_callB bt_len U.m_len (by decide +kernel) (pda_cons (pd_var 2) pda_nil)) pd_int) pda_nil))) (blkOk_by (N := n_law_small_right) (sc := defScope s_law_small_right) (by decide +kernel)) (fun _ _ _ _ _ => by first | exact pg_name (i := 4) nd rfl (Or.inl rfl) | exact pg_name (i := 4) nd rfl (Or.inr rfl)) (fun _ _ _ _ _ => pdts_nil) (fun _ _ _ _ _ => (pd_call d_crease hr (pda_cons (pd_var 0) (pda_cons (pd_var 1) (pda_cons (pd_var 4) pda_nil)))))))))
    (pds_cons (pds_if (pdt_w (pdw_or (pdt_cmp cd_ne (pd_var 3) (pd_var 2) (nomark _)) (pdw_or1 (pdt_cmp cd_ne (pd_callB bt_len U.m_len (by decide +kernel) (pda_cons (pd_var 2) pda_nil)) (pd_op bd_sub (pd_call d__law_doubled hr (pda_cons (pd_var 1) pda_nil)) pd_int) (nomark _))))) (pds_one (pds_ret pd_bl)) pds_nil)
    (pds_cons (pds_for rfl (pdi_range2W U.m_range (pda_cons pd_int (pda_cons (pd_op bd_add (pd_callB bt_len U.m_len (by decide +kernel) (pda_cons (pd_var 2) pda_nil)) pd_int) pda_nil))) (pdg_name (i := 4) nd) (pds_one (pds_if (pdt_cmp cd_ne (pd_call d_valleys hr (pda_cons (pd_var 0) (pda_cons (pd_var 1) (pda_cons (pd_var 4) pda_nil)))) (pd_count (pd_slice (pd_var 2) pdo_none (pdo_some (pd_var 4))) pd_str) (nomark _)) (pds_one (pds_ret pd_bl)) pds_nil)))
    (pds_cons (pds_for rfl (pdi_tup (pd_tup (pda_cons pd_int (pda_cons (pd_op bd_add (pd_op bd_div (pd_callB bt_len U.m_len (by decide +kernel) (pda_cons (pd_var 2) pda_nil)) pd_int) pd_int) (pda_cons (pd_callB bt_len U.m_len (by decide +kernel) (pda_cons (pd_var 2) pda_nil)) pda_nil))))) (pdg_name (i := 4) nd) (pds_one (pds_for rfl (pdi_tup (pd_tup (pda_cons pd_int (pda_cons pd_int (pda_cons pd_int pda_nil))))) (pdg_name (i := 5) nd) (pds_cons (pds_set (i := 6) nd (pd_slice (pd_var 2) (pdo_some (pd_op bd_sub (pd_var 4) pd_int)) (pdo_some (pd_op bd_sub (pd_op bd_add (pd_var 4) (pd_var 5)) pd_int))))
    (pds_one (pds_if (pdt_w (pdw_and (pdt_cmp cd_eq (pd_callB bt_len U.m_len (by decide +kernel) (pda_cons (pd_var 6) pda_nil)) (pd_var 5) (nomark _)) (pdw_and1 (pdt_cmp cd_ne (pd_call d_row hr (pda_cons (pd_var 0) (pda_cons (pd_var 1) (pda_cons (pd_var 4) (pda_cons (pd_var 5) pda_nil))))) (pd_var 6) (nomark _))))) (pds_one (pds_ret pd_bl)) pds_nil))))))
    (pds_one (pds_ret pd_bl)))))))) rd_law_small_right
abbrev s_law_great_right : Stmt := topS 65
theorem sc_law_great_right : FnScope n_law_great_right ["_law_sheet_here", "_law_recipe", "_law_many"] (defScope s_law_great_right) := ⟨rfl, rfl, rfl, by decide +kernel, rfl, by decide +kernel, by decide +kernel⟩
theorem ok_law_great_right (U : Glob K mg cs) (d__law_doubled : Def P w K mg base T 1 "_law_doubled" sp_law_doubled) (d__law_first : Def P w K mg base T 1 "_law_first" sp_law_first) (d__law_tear : Def P w K mg base T 1 "_law_tear" sp_law_tear) (d_crease : Def P w K mg base T 6 "crease" sp_crease) (d__law_crease : Def P w K mg base T 2 "_law_crease" sp_law_crease) (d_row : Def P w K mg base T 6 "row" sp_row) (d_valleys : Def P w K mg base T 6 "valleys" sp_valleys) (F : FnAt K mg "_law_great_right" s_law_great_right ["_law_sheet_here", "_law_recipe", "_law_many"]) : Def P w K mg base T 7 "_law_great_right" sp_law_great_right := by
  obtain ⟨c, F⟩ := F
  exact def_ofC (fs := r_law_great_right) F sc_law_great_right (fun h => len_law_great_right h) (fun f A outer s H E hr => by
    have nd := sc_law_great_right.nd
    exact (pds_cons (pds_asg (pd_tup (pda_cons (pd_call d__law_first hr (pda_cons (pd_var 1) (pda_cons (pd_var 2) pda_nil))) (pda_cons (pd_op bd_sub (pd_call d__law_doubled hr (pda_cons (pd_var 2) pda_nil)) pd_int) pda_nil))) (pdg_tup rfl (pdgs_cons (pdg_name (i := 6) nd) (pdgs_cons (pdg_name (i := 7) nd) pdgs_nil))))
    (pds_cons (pds_set (i := 3) nd (pd_call d__law_doubled hr (pda_cons (pd_op bd_sub (pd_var 2) pd_int) pda_nil)))
    (pds_cons (pds_set (i := 4) nd (pd_lstM (pda_cons (pd_op bd_add pd_int (pd_call d__law_tear hr (pda_cons (pd_var 0) (pda_cons (pd_var 7) pda_nil)))) (pda_cons (pd_var 3) (pda_cons (pd_var 7) (pda_cons (pd_op bd_mul pd_int (pd_op bd_div (pd_var 3) pd_int)) (pda_cons (pd_op bd_sub (pd_var 3) pd_int) (pda_cons (pd_op bd_sub (pd_var 7) (pd_call d__law_tear hr (pda_cons (pd_var 0) (pda_cons pd_int pda_nil)))) pda_nil))))))))
    (pds_cons (pds_expr (pd_append (pd_var 4) (pd_op bd_mul (pd_call d__law_doubled hr (pda_cons (pd_call d__law_tear hr (pda_cons (pd_var 0) (pda_cons (pd_var 2) pda_nil))) pda_nil)) (pd_op bd_add pd_int (pd_op bd_mul pd_int (pd_call d__law_tear hr (pda_cons (pd_var 0) (pda_cons pd_int pda_nil))))))))
    (pds_cons (pds_expr (pd_append (pd_var 4) (pd_op bd_add pd_int (pd_call d__law_tear hr (pda_cons (pd_var 0) (pda_cons (pd_var 7) pda_nil))))))
    (pds_freeze 4 (pds_cons (pds_for rfl (pdi_list (pd_var 4)) (pdg_name (i := 5) nd) (pds_one (pds_if (pdt_chain cd_lt cd_le pd_int (pd_var 5) (pd_var 7)) (pds_cons (pds_if (pdt_cmp cd_ne (pd_call d_crease hr (pda_cons (pd_var 1) (pda_cons (pd_var 2) (pda_cons (pd_var 5) pda_nil)))) (pd_call d__law_crease hr (pda_cons (pd_var 6) (pda_cons (pd_var 5) pda_nil))) (nomark _)) (pds_one (pds_ret pd_bl)) pds_nil)
    (pds_cons (pds_set (i := 10) nd (pd_callB (bt_min rfl) U.m_min (by decide +kernel) (pda_cons (pd_op bd_add pd_int (pd_call d__law_tear hr (pda_cons (pd_var 0) (pda_cons pd_int pda_nil)))) (pda_cons (pd_op bd_add (pd_op bd_sub (pd_var 7) (pd_var 5)) pd_int) pda_nil))))
    (pds_cons (pds_set (i := 11) nd (pd_join pd_str (pd_imm (pdl_comp (j := 13) rfl nd (pdi_range2W U.m_range (pda_cons (pd_var 5) (pda_cons (pd_op bd_add (pd_var 5) (pd_var 10)) pda_nil))) (blkOk_by (N := n_law_great_right) (sc := defScope s_law_great_right) (by decide +kernel)) (fun _ _ _ _ _ => by first | exact pg_name (i := 13) nd rfl (Or.inl rfl) | exact pg_name (i := 13) nd rfl (Or.inr rfl)) (fun _ _ _ _ _ => pdts_nil) (fun _ _ _ _ _ => (pd_call d__law_crease hr (pda_cons (pd_var 6) (pda_cons (pd_var 13) pda_nil))))))))
    (pds_cons (pds_if (pdt_cmp cd_ne (pd_call d_row hr (pda_cons (pd_var 1) (pda_cons (pd_var 2) (pda_cons (pd_var 5) (pda_cons (pd_var 10) pda_nil))))) (pd_var 11) (nomark _)) (pds_one (pds_ret pd_bl)) pds_nil)
    (pds_one (pds_if (pdt_cmp cd_gt (pd_var 5) pd_int (nomark _)) (pds_cons (pds_set (i := 12) nd (pd_op bd_sub (pd_call d_valleys hr (pda_cons (pd_var 1) (pda_cons (pd_var 2) (pda_cons (pd_var 5) pda_nil)))) (pd_call d_valleys hr (pda_cons (pd_var 1) (pda_cons (pd_var 2) (pda_cons (pd_op bd_sub (pd_var 5) pd_int) pda_nil))))))
    (pds_one (pds_if (pdt_cmp cd_ne (pd_var 12) (pd_callTy bt_int U.m_int (by decide +kernel) (pda_cons (pd_cmp cd_eq (pd_call d__law_crease hr (pda_cons (pd_var 6) (pda_cons (pd_var 5) pda_nil))) pd_str (nomark _)) pda_nil)) (nomark _)) (pds_one (pds_ret pd_bl)) pds_nil))) pds_nil)))))) pds_nil)))
    (pds_cons (pds_par (i := 8) (j := 9) rfl nd (pda_cons (pd_call d_valleys hr (pda_cons (pd_var 1) (pda_cons (pd_var 2) (pda_cons (pd_op bd_sub (pd_var 3) pd_int) pda_nil)))) (pda_cons (pd_call d_valleys hr (pda_cons (pd_var 1) (pda_cons (pd_var 2) (pda_cons (pd_var 7) pda_nil)))) pda_nil)))
    (pds_one (pds_ret (pd_cmp cd_eq (pd_op bd_sub (pd_var 9) (pd_var 8)) (pd_op bd_add (pd_op bd_sub (pd_op bd_sub (pd_var 3) pd_int) (pd_var 8)) (pd_callTy bt_int U.m_int (by decide +kernel) (pda_cons (pd_cmp cd_eq (pd_ix (pd_var 6) pd_int) pd_str (nomark _)) pda_nil))) (nomark _))))))))))))) rd_law_great_right
end
end FD

set_option Elab.async false
set_option linter.all false
set_option maxRecDepth 100000
set_option maxHeartbeats 4000000
set_option autoImplicit false
namespace FD
open PySem PySem.Spec PyProof.Rows L2 HotX L2H LamX
section
variable {P : Program} {w : World} {K : PySem.W.Frag} {mg : Str → Option Value} {base : Heap} {T : Tb} {cs : Str → Addr}
abbrev s_law_names : Stmt := topS 62
theorem sc_law_names : FnScope n_law_names ["_law_error"] (defScope s_law_names) := ⟨rfl, rfl, rfl, by decide +kernel, rfl, by decide +kernel, by decide +kernel⟩
theorem ok_law_names (U : Glob K mg cs) (hcs : ∀ n ∈ errNames, mg n = some (.ref (cs n))) {D : Addr} {nm : Str} {isB : V → Option Bool} (X : ExcC K D) (hi : IsOk K D isB) (h : ∀ n ∈ errNames, isB (.ref (cs n)) = some (decide (n = nm))) (hv : isB (.ty "ValueError") = some true)
    {f : Addr} {oc : Value} {od : Option Addr} {dV kV doc pm cdv ct : Value} {an : Option Addr} {osl : Array (Option Value)} (lk : K.lookup f = some ⟨oc, od, .func (PySem.W.fnOf "_law_names" "_law_names" (defArgs s_law_names) (defBody s_law_names) (defScope s_law_names) dV kV doc pm an cdv ct), osl⟩) (hcd : PySem.W.codeIn K cdv "_law_names" = true) :
    FnE P w K mg base 1 f (PySem.W.fnOf "_law_names" "_law_names" (defArgs s_law_names) (defBody s_law_names) (defScope s_law_names) dV kV doc pm an cdv ct) ["_law_error"] D (spN ⟨K, mg, T, fun _ _ _ => False⟩ nm) := by
  refine fnE_of (N := n_law_names) lk hcd sc_law_names (fun A outer s H Q p hot1 hz hr hsp => ?_)
  have nd := sc_law_names.nd
  have hf : ∃ vs, p.2.data = .fields vs := by obtain ⟨_, vs, e, _⟩ := hot1; exact ⟨vs, e⟩
  have isE := bt_isE (C := dxE (P := P) (w := w) (K := K) (mg := mg) (base := base) T (N := n_law_names) (outer := outer) (H := H) (p := p) hr) X (List.mem_singleton.mpr rfl) hz hf hi
  have hot : HotC (dxE (P := P) (w := w) (K := K) (mg := mg) (base := base) T (N := n_law_names) (outer := outer) (H := H) (p := p) hr).X := ⟨p, hot1, List.mem_singleton.mpr rfl⟩
  have body : PDSs (dxE (P := P) (w := w) (K := K) (mg := mg) (base := base) T (N := n_law_names) (outer := outer) (H := H) (p := p) hr) (defBody s_law_names) (r_law_names cs isB p.1) := (pds_cons (pds_set (i := 1) nd (pd_lst (pda_cons (pd_callB isE U.m_isinstance (by decide +kernel) (pda_cons (pd_var 0) (pda_cons (pd_gobj (hcs "InvalidRecipe" (by decide))) pda_nil))) (pda_cons (pd_callB isE U.m_isinstance (by decide +kernel) (pda_cons (pd_var 0) (pda_cons (pd_gobj (hcs "InvalidNumber" (by decide))) pda_nil))) (pda_cons (pd_callB isE U.m_isinstance (by decide +kernel) (pda_cons (pd_var 0) (pda_cons (pd_gobj (hcs "InvalidPlace" (by decide))) pda_nil))) pda_nil)))))
    (pds_cons (pds_set (i := 1) nd (pd_op bd_add (pd_var 1) (pd_lst (pda_cons (pd_callB isE U.m_isinstance (by decide +kernel) (pda_cons (pd_var 0) (pda_cons (pd_gobj (hcs "InvalidWord" (by decide))) pda_nil))) (pda_cons (pd_callB isE U.m_isinstance (by decide +kernel) (pda_cons (pd_var 0) (pda_cons (pd_gobj (hcs "InvalidSights" (by decide))) pda_nil))) (pda_cons (pd_callB isE U.m_isinstance (by decide +kernel) (pda_cons (pd_var 0) (pda_cons (pd_gobj (hcs "InvalidStep" (by decide))) pda_nil))) pda_nil))))))
    (pds_cons (pds_set (i := 1) nd (pd_op bd_add (pd_var 1) (pd_lst (pda_cons (pd_callB isE U.m_isinstance (by decide +kernel) (pda_cons (pd_var 0) (pda_cons (pd_gobj (hcs "InvalidCorner" (by decide))) pda_nil))) (pda_cons (pd_callB isE U.m_isinstance (by decide +kernel) (pda_cons (pd_var 0) (pda_cons (pd_gobj (hcs "InvalidText" (by decide))) pda_nil))) (pda_cons (pd_callB isE U.m_isinstance (by decide +kernel) (pda_cons (pd_var 0) (pda_cons (pd_gobj (hcs "InvalidFold" (by decide))) pda_nil))) pda_nil))))))
    (pds_cons (pds_set (i := 1) nd (pd_op bd_add (pd_var 1) (pd_lst (pda_cons (pd_callB isE U.m_isinstance (by decide +kernel) (pda_cons (pd_var 0) (pda_cons (pd_gobj (hcs "Impossible" (by decide))) pda_nil))) (pda_cons (pd_callB isE U.m_isinstance (by decide +kernel) (pda_cons (pd_var 0) (pda_cons (pd_gobj (hcs "Unlike" (by decide))) pda_nil))) (pda_cons (pd_callB isE U.m_isinstance (by decide +kernel) (pda_cons (pd_var 0) (pda_cons (pd_gobj (hcs "Flat" (by decide))) pda_nil))) pda_nil))))))
    (pds_cons (pds_set (i := 1) nd (pd_op bd_addM (pd_var 1) (pd_lst (pda_cons (pd_callB isE U.m_isinstance (by decide +kernel) (pda_cons (pd_var 0) (pda_cons (pd_gobj (hcs "NothingToUndo" (by decide))) pda_nil))) (pda_cons (pd_callB isE U.m_isinstance (by decide +kernel) (pda_cons (pd_var 0) (pda_cons (pd_gobj (hcs "TooMany" (by decide))) pda_nil))) (pda_cons (pd_callB isE U.m_isinstance (by decide +kernel) (pda_cons (pd_var 0) (pda_cons (pd_gobj (hcs "Failed" (by decide))) pda_nil))) pda_nil))))))
    (pds_cons (pds_expr (pd_append (pd_var 1) (pd_callB isE U.m_isinstance (by decide +kernel) (pda_cons (pd_var 0) (pda_cons (pd_ty U.m_ValueError (by decide +kernel)) pda_nil)))))
    (pds_cons (pds_set (i := 2) nd pd_str)
    (pds_freeze 1 (pds_one (pds_ret (pd_join pd_str (pd_imm (pdl_compH (j1 := 3) (j2 := 4) hot nd (pdi_zipH U.m_zip (pda_cons (pd_split (pd_var 2) pd_str) (pda_cons (pd_var 1) pda_nil))) (blkOk_by (N := n_law_names) (sc := defScope s_law_names) (by decide +kernel)) (fun _ _ _ _ _ _ => pgs_cons (pg_name (i := 3) nd rfl (Or.inl rfl)) (pgs_cons (pg_name (i := 4) nd rfl (Or.inl rfl)) pgs_nil)) (fun _ _ _ _ _ _ => pdts_one (pdt_val (pd_var 4))) (fun _ _ _ _ _ _ => (pd_var 3)))))))))))))))
  obtain ⟨M, G, sr, hq⟩ := hsp
  refine ⟨_, body, M, startD n_law_names [.obj (.ref p.1)], G, endD (fun d G1 => d = .str (wordOf nm) ∧ G1 = G) (fun _ _ => False), start_rel (.cons (.obj _) .nil), sr, (fun _ _ _ _ _ _ z => False.elim z), rd_law_names h hv G _ _ ⟨rfl, rfl⟩, (fun ρ' σ' G' H' g er' q => nomatch q.1), (fun v H' d G' g r q => ?_), (fun _ _ _ _ _ _ z => False.elim z), (fun _ _ _ _ _ _ z => False.elim z)⟩
  obtain ⟨rfl, rfl⟩ := q
  cases r
  exact hq H' ⟨g.s, g.x, g.k⟩
abbrev s_law_refused : Stmt := topS 66
theorem sc_law_refused : FnScope n_law_refused ["_law_recipe"] (defScope s_law_refused) := ⟨rfl, rfl, rfl, by decide +kernel, rfl, by decide +kernel, by decide +kernel⟩
theorem ok_law_refused (U : Glob K mg cs) (hne : cs "crease" ≠ cs "valleys") (W : WordOk P w K mg base T s_law_word cs ers 1) (WS : WordSt s_law_word) {c Pt : Addr} (TB : TabB base mg c Pt) (hmT : (Pt, (("_law_refused" : Str) ++ (".<locals>." : Str)) ++ ("<lambda>" : Str)) ∈ T) (hu : ∀ p ∈ T, p.1 = Pt → p.2 = (("_law_refused" : Str) ++ (".<locals>." : Str)) ++ ("<lambda>" : Str)) (d_row : Def P w K mg base T 6 "row" sp_row) (d_crease : Def P w K mg base T 6 "crease" sp_crease) (d_valleys : Def P w K mg base T 6 "valleys" sp_valleys) (F : FnAtC K mg "_law_refused" s_law_refused ["_law_recipe"] c) : Def P w K mg base T 9 "_law_refused" sp_law_refused := by
  have hS : ∀ v sp, heldS cs v = some sp → ∃ (ad : Addr) (y : Str), v = .ref ad ∧ mg y = some (.ref ad) ∧ Def P w K mg base T 6 y sp := fun v sp e => by
    unfold heldS at e
    split at e
    · rename_i h; cases e; exact ⟨_, "crease", h, U.o_crease, d_crease⟩
    · split at e
      · rename_i h; cases e; exact ⟨_, "valleys", h, U.o_valleys, d_valleys⟩
      · cases e
  exact def_ofC (fs := r_law_refused cs) F sc_law_refused (fun h => len_law_refused h) (fun f A outer s H E hr => by
    have nd := sc_law_refused.nd
    exact (pds_cons (pds_for rfl (pdi_list (pd_lst (pda_cons pd_non (pda_cons (pd_neg pd_int) (pda_cons pd_int (pda_cons pd_bl (pda_cons pd_str pda_nil))))))) (pdg_name (i := 1) nd) (pds_cons (pds_setComp (j := 3) (i := 2) rfl nd (pdi_tup (pd_tup (pda_cons (pd_gobj U.o_crease) (pda_cons (pd_gobj U.o_valleys) pda_nil)))) (blkOk_by (N := n_law_refused) (sc := defScope s_law_refused) (by decide +kernel)) (fun _ _ _ _ _ => by first | exact pg_name (i := 3) nd rfl (Or.inl rfl) | exact pg_name (i := 3) nd rfl (Or.inr rfl)) (fun _ _ _ _ _ => pdts_nil) (fun _ _ _ _ _ => (pd_lam W WS hr TB hmT hu (show LamS (relS _ (defScope s_law_refused)) _ from lamS_by (by decide +kernel)) (fun _ _ _ _ _ _ _ hr1 => (pd_callL (i := 3) hS hr1 (pda_cons (pd_var 0) (pda_cons (pd_var 1) (pda_cons pd_non pda_nil))))))) (sw_true rfl rfl rfl (by decide +kernel)))
    (pds_one (pds_if (pdt_cmp cd_ne (pd_op bd_add (pd_var 2) (pd_lst (pda_cons (pd_lam W WS hr TB hmT hu (lamS_by (sc := defScope s_law_refused) (by decide +kernel)) (fun _ _ _ _ _ _ _ hr1 => (pd_call d_row hr1 (pda_cons (pd_var 0) (pda_cons (pd_var 1) (pda_cons pd_non (pda_cons pd_non pda_nil))))))) pda_nil))) (pd_op bd_mul (pd_lst (pda_cons pd_str pda_nil)) pd_int) (nomark _)) (pds_one (pds_ret pd_bl)) pds_nil))))
    (pds_cons (pds_for rfl (pdi_list (pd_lst (pda_cons pd_non (pda_cons pd_int (pda_cons (pd_neg pd_int) (pda_cons pd_int (pda_cons pd_bl (pda_cons pd_str pda_nil)))))))) (pdg_name (i := 1) nd) (pds_cons (pds_setComp (j := 3) (i := 2) rfl nd (pdi_tup (pd_tup (pda_cons (pd_gobj U.o_crease) (pda_cons (pd_gobj U.o_valleys) pda_nil)))) (blkOk_by (N := n_law_refused) (sc := defScope s_law_refused) (by decide +kernel)) (fun _ _ _ _ _ => by first | exact pg_name (i := 3) nd rfl (Or.inl rfl) | exact pg_name (i := 3) nd rfl (Or.inr rfl)) (fun _ _ _ _ _ => pdts_nil) (fun _ _ _ _ _ => (pd_lam W WS hr TB hmT hu (show LamS (relS _ (defScope s_law_refused)) _ from lamS_by (by decide +kernel)) (fun _ _ _ _ _ _ _ hr1 => (pd_callL (i := 3) hS hr1 (pda_cons (pd_var 0) (pda_cons pd_int (pda_cons (pd_var 1) pda_nil))))))) (sw_true rfl rfl rfl (by decide +kernel)))
    (pds_one (pds_if (pdt_cmp cd_ne (pd_op bd_add (pd_var 2) (pd_lst (pda_cons (pd_lam W WS hr TB hmT hu (lamS_by (sc := defScope s_law_refused) (by decide +kernel)) (fun _ _ _ _ _ _ _ hr1 => (pd_call d_row hr1 (pda_cons (pd_var 0) (pda_cons pd_int (pda_cons (pd_var 1) (pda_cons pd_non pda_nil))))))) pda_nil))) (pd_op bd_mul (pd_lst (pda_cons pd_str pda_nil)) pd_int) (nomark _)) (pds_one (pds_ret pd_bl)) pds_nil))))
    (pds_cons (pds_for rfl (pdi_list (pd_lst (pda_cons pd_non (pda_cons pd_int (pda_cons pd_int (pda_cons pd_int (pda_cons pd_bl (pda_cons pd_str pda_nil)))))))) (pdg_name (i := 1) nd) (pds_one (pds_if (pdt_cmp cd_ne (pd_lam W WS hr TB hmT hu (lamS_by (sc := defScope s_law_refused) (by decide +kernel)) (fun _ _ _ _ _ _ _ hr1 => (pd_call d_row hr1 (pda_cons (pd_var 0) (pda_cons pd_int (pda_cons pd_int (pda_cons (pd_var 1) pda_nil))))))) pd_str (nomark _)) (pds_one (pds_ret pd_bl)) pds_nil)))
    (pds_one (pds_ret (pd_cmp cd_eq (pd_lam W WS hr TB hmT hu (lamS_by (sc := defScope s_law_refused) (by decide +kernel)) (fun _ _ _ _ _ _ _ hr1 => (pd_call d_crease hr1 (pda_cons (pd_var 0) (pda_cons pd_int (pda_cons pd_int pda_nil)))))) pd_str (nomark _)))))))) (rd_law_refused hne)
abbrev s_law : Stmt := topS 67
theorem sc_law : FnScope n_law ["_law_script"] (defScope s_law) := ⟨rfl, rfl, rfl, by decide +kernel, rfl, by decide +kernel, by decide +kernel⟩
theorem ok_law (U : Glob K mg cs) (hne : cs "crease" ≠ cs "valleys") (W : WordOk P w K mg base T s_law_word cs ers 1) (WS : WordSt s_law_word) {c Pt : Addr} (TB : TabB base mg c Pt) (hmT : (Pt, (("law" : Str) ++ (".<locals>." : Str)) ++ ("<lambda>" : Str)) ∈ T) (hu : ∀ p ∈ T, p.1 = Pt → p.2 = (("law" : Str) ++ (".<locals>." : Str)) ++ ("<lambda>" : Str)) (d__law_sheet : Def P w K mg base T 1 "_law_sheet" sp_law_sheet) (d__law_any_recipe : Def P w K mg base T 4 "_law_any_recipe" sp_law_any_recipe) (d__law_pick : Def P w K mg base T 2 "_law_pick" sp_law_pick) (d__law_tear : Def P w K mg base T 1 "_law_tear" sp_law_tear) (d__law_small_right : Def P w K mg base T 7 "_law_small_right" sp_law_small_right) (d__law_great_right : Def P w K mg base T 7 "_law_great_right" sp_law_great_right) (d__law_bent : Def P w K mg base T 7 "_law_bent" (sp_law_bent 3)) (d__law_good_recipe : Def P w K mg base T 2 "_law_good_recipe" sp_law_good_recipe) (d__law_refused : Def P w K mg base T 9 "_law_refused" sp_law_refused) (d_row : Def P w K mg base T 6 "row" sp_row) (d_crease : Def P w K mg base T 6 "crease" sp_crease) (d_valleys : Def P w K mg base T 6 "valleys" sp_valleys) {f : Addr} {oc : Value} {od : Option Addr} {dV kV doc pm : Value} {an : Option Addr} {ct : Value} {osl : Array (Option Value)} (lk : K.lookup f = some ⟨oc, od, .func (PySem.W.fnOf "law" "law" (defArgs s_law) (defBody s_law) (defScope s_law) dV kV doc pm an (.ref c) ct), osl⟩) (hcd : PySem.W.codeIn K (.ref c) "law" = true) : FnOk P w K mg base (L2N.CX P w) 10 f (PySem.W.fnOf "law" "law" (defArgs s_law) (defBody s_law) (defScope s_law) dV kV doc pm an (.ref c) ct) ["_law_script"] (spD ⟨K, mg, T, fun _ _ _ => False⟩ sp_law) := by
  have hS : ∀ v sp, heldS cs v = some sp → ∃ (ad : Addr) (y : Str), v = .ref ad ∧ mg y = some (.ref ad) ∧ Def P w K mg base T 6 y sp := fun v sp e => by
    unfold heldS at e
    split at e
    · rename_i h; cases e; exact ⟨_, "crease", h, U.o_crease, d_crease⟩
    · split at e
      · rename_i h; cases e; exact ⟨_, "valleys", h, U.o_valleys, d_valleys⟩
      · cases e
  exact fnok_of (fs := r_law cs) lk hcd sc_law (fun h => len_law h) (fun A outer s H E hr => by
    have nd := sc_law.nd
    exact (pds_cons (pds_for rfl (pdi_range1 U.m_range (pda_cons (pd_callB (bt_max rfl) U.m_max (by decide +kernel) (pda_cons pd_int (pda_cons (pd_callB (bt_min rfl) U.m_min (by decide +kernel) (pda_cons pd_int (pda_cons (pd_callB bt_len U.m_len (by decide +kernel) (pda_cons (pd_var 0) pda_nil)) pda_nil))) pda_nil))) pda_nil)) (pdg_name (i := 1) nd) (pds_cons (pds_set (i := 2) nd (pd_call d__law_sheet hr (pda_cons (pd_var 0) (pda_cons (pd_var 1) pda_nil))))
    (pds_cons (pds_set (i := 3) nd (pd_call d__law_any_recipe hr (pda_cons (pd_var 2) (pda_cons (pd_call d__law_pick hr (pda_cons (pd_var 2) (pda_cons (pd_lst (pda_cons pd_int (pda_cons pd_int (pda_cons pd_int pda_nil)))) pda_nil))) pda_nil))))
    (pds_cons (pds_for rfl (pdi_tup (pd_tup (pda_cons (pd_op bd_add pd_int (pd_call d__law_tear hr (pda_cons (pd_var 2) (pda_cons pd_int pda_nil)))) (pda_cons pd_int pda_nil)))) (pdg_name (i := 4) nd) (pds_one (pds_if (pdt_not (pdt_val (pd_call d__law_small_right hr (pda_cons (pd_var 3) (pda_cons (pd_var 4) pda_nil))))) (pds_one (pds_ret pd_bl)) pds_nil)))
    (pds_cons (pds_for rfl (pdi_tup (pd_tup (pda_cons pd_int (pda_cons (pd_op bd_add pd_int (pd_call d__law_tear hr (pda_cons (pd_var 2) (pda_cons pd_int pda_nil)))) pda_nil)))) (pdg_name (i := 4) nd) (pds_one (pds_if (pdt_not (pdt_val (pd_call d__law_great_right hr (pda_cons (pd_var 2) (pda_cons (pd_var 3) (pda_cons (pd_var 4) pda_nil)))))) (pds_one (pds_ret pd_bl)) pds_nil)))
    (pds_cons (pds_set (i := 5) nd (pd_call d__law_bent hr (pda_cons (pd_var 2) (pda_cons (pd_var 3) pda_nil))))
    (pds_one (pds_if (pdt_not (pdt_val (pd_call d__law_good_recipe hr (pda_cons (pd_var 5) pda_nil)))) (pds_cons (pds_setComp (j := 7) (i := 6) rfl nd (pdi_tup (pd_tup (pda_cons (pd_gobj U.o_crease) (pda_cons (pd_gobj U.o_valleys) pda_nil)))) (blkOk_by (N := n_law) (sc := defScope s_law) (by decide +kernel)) (fun _ _ _ _ _ => by first | exact pg_name (i := 7) nd rfl (Or.inl rfl) | exact pg_name (i := 7) nd rfl (Or.inr rfl)) (fun _ _ _ _ _ => pdts_nil) (fun _ _ _ _ _ => (pd_lam W WS hr TB hmT hu (show LamS (relS _ (defScope s_law)) _ from lamS_by (by decide +kernel)) (fun _ _ _ _ _ _ _ hr1 => (pd_callL (i := 7) hS hr1 (pda_cons (pd_var 5) (pda_cons pd_non (pda_cons pd_non pda_nil))))))) (sw_true rfl rfl rfl (by decide +kernel)))
    (pds_one (pds_if (pdt_w (pdw_or (pdt_cmp cd_ne (pd_var 6) (pd_op bd_mul (pd_lst (pda_cons pd_str pda_nil)) pd_int) (nomark _)) (pdw_or1 (pdt_not (pdt_val (pd_call d__law_refused hr (pda_cons (pd_var 3) pda_nil))))))) (pds_one (pds_ret pd_bl)) pds_nil))) pds_nil))))))))
    (pds_cons (pds_if (pdt_w (pdw_or (pdt_cmp cd_ne (pd_call d_row hr (pda_cons (pd_tup (pda_cons (pd_tup pda_nil) (pda_cons (pd_tup (pda_cons pd_str (pda_cons pd_str pda_nil))) pda_nil))) (pda_cons pd_int (pda_cons pd_int (pda_cons pd_int pda_nil))))) pd_str (nomark _)) (pdw_or1 (pdt_cmp cd_ne (pd_call d_row hr (pda_cons (pd_tup (pda_cons (pd_tup (pda_cons pd_str pda_nil)) (pda_cons (pd_tup (pda_cons pd_str pda_nil)) pda_nil))) (pda_cons pd_int (pda_cons pd_int (pda_cons pd_int pda_nil))))) pd_str (nomark _))))) (pds_one (pds_ret pd_bl)) pds_nil)
    (pds_one (pds_ret (pd_and (pd_cmp cd_eq (pd_call d_crease hr (pda_cons (pd_tup (pda_cons (pd_tup pda_nil) (pda_cons (pd_tup (pda_cons pd_str pda_nil)) pda_nil))) (pda_cons pd_int (pda_cons (pd_op bd_pow pd_int pd_int) pda_nil)))) pd_str (nomark _)) (pd_one (pd_cmp cd_eq (pd_call d_valleys hr (pda_cons (pd_tup (pda_cons (pd_tup pda_nil) (pda_cons (pd_tup (pda_cons pd_str pda_nil)) pda_nil))) (pda_cons pd_int (pda_cons pd_int pda_nil)))) pd_int (nomark _))))))))) (rd_law hne)
end
end FD

set_option Elab.async false
set_option linter.all false
set_option maxRecDepth 100000
set_option maxHeartbeats 4000000
set_option autoImplicit false
namespace FD
open PySem PySem.Spec PyProof.Rows L2 HotX L2H LamX
def dd_is_integer : He.DefD := ⟨("is_integer", none), "is_integer", "is_integer", defArgs s_is_integer, defBody s_is_integer, defScope s_is_integer, [], []⟩
def dd_is_fold : He.DefD := ⟨("is_fold", none), "is_fold", "is_fold", defArgs s_is_fold, defBody s_is_fold, defScope s_is_fold, [], []⟩
def dd_are_folds : He.DefD := ⟨("are_folds", none), "are_folds", "are_folds", defArgs s_are_folds, defBody s_are_folds, defScope s_are_folds, [], []⟩
def dd_is_recipe : He.DefD := ⟨("is_recipe", none), "is_recipe", "is_recipe", defArgs s_is_recipe, defBody s_is_recipe, defScope s_is_recipe, [], []⟩
def dd_need_recipe : He.DefD := ⟨("need_recipe", none), "need_recipe", "need_recipe", defArgs s_need_recipe, defBody s_need_recipe, defScope s_need_recipe, [], []⟩
def dd_need_many : He.DefD := ⟨("need_many", none), "need_many", "need_many", defArgs s_need_many, defBody s_need_many, defScope s_need_many, [], []⟩
def dd_power : He.DefD := ⟨("power", none), "power", "power", defArgs s_power, defBody s_power, defScope s_power, [], []⟩
def dd_item_of : He.DefD := ⟨("item_of", none), "item_of", "item_of", defArgs s_item_of, defBody s_item_of, defScope s_item_of, [], []⟩
def dd_folds_of : He.DefD := ⟨("folds_of", none), "folds_of", "folds_of", defArgs s_folds_of, defBody s_folds_of, defScope s_folds_of, [], []⟩
def dd_last_place : He.DefD := ⟨("last_place", none), "last_place", "last_place", defArgs s_last_place, defBody s_last_place, defScope s_last_place, [], []⟩
def dd_halved : He.DefD := ⟨("halved", none), "halved", "halved", defArgs s_halved, defBody s_halved, defScope s_halved, [], []⟩
def dd_crease_by : He.DefD := ⟨("crease_by", none), "crease_by", "crease_by", defArgs s_crease_by, defBody s_crease_by, defScope s_crease_by, [], []⟩
def dd_row_by : He.DefD := ⟨("row_by", none), "row_by", "row_by", defArgs s_row_by, defBody s_row_by, defScope s_row_by, [], []⟩
def dd_valleys_by : He.DefD := ⟨("valleys_by", none), "valleys_by", "valleys_by", defArgs s_valleys_by, defBody s_valleys_by, defScope s_valleys_by, [], []⟩
def dd_need_place : He.DefD := ⟨("need_place", none), "need_place", "need_place", defArgs s_need_place, defBody s_need_place, defScope s_need_place, [], []⟩
def dd_need_strip : He.DefD := ⟨("need_strip", none), "need_strip", "need_strip", defArgs s_need_strip, defBody s_need_strip, defScope s_need_strip, [], []⟩
def dd_crease : He.DefD := ⟨("crease", none), "crease", "crease", defArgs s_crease, defBody s_crease, defScope s_crease, [], []⟩
def dd_row : He.DefD := ⟨("row", none), "row", "row", defArgs s_row, defBody s_row, defScope s_row, [], []⟩
def dd_valleys : He.DefD := ⟨("valleys", none), "valleys", "valleys", defArgs s_valleys, defBody s_valleys, defScope s_valleys, [], []⟩
def dd_law_sheet : He.DefD := ⟨("_law_sheet", none), "_law_sheet", "_law_sheet", defArgs s_law_sheet, defBody s_law_sheet, defScope s_law_sheet, [], []⟩
def dd_law_tear : He.DefD := ⟨("_law_tear", none), "_law_tear", "_law_tear", defArgs s_law_tear, defBody s_law_tear, defScope s_law_tear, [], []⟩
def dd_law_pick : He.DefD := ⟨("_law_pick", none), "_law_pick", "_law_pick", defArgs s_law_pick, defBody s_law_pick, defScope s_law_pick, [], []⟩
def dd_law_folds : He.DefD := ⟨("_law_folds", none), "_law_folds", "_law_folds", defArgs s_law_folds, defBody s_law_folds, defScope s_law_folds, [], []⟩
def dd_law_any_recipe : He.DefD := ⟨("_law_any_recipe", none), "_law_any_recipe", "_law_any_recipe", defArgs s_law_any_recipe, defBody s_law_any_recipe, defScope s_law_any_recipe, [], []⟩
def dd_law_first : He.DefD := ⟨("_law_first", none), "_law_first", "_law_first", defArgs s_law_first, defBody s_law_first, defScope s_law_first, [], []⟩
def dd_law_other : He.DefD := ⟨("_law_other", none), "_law_other", "_law_other", defArgs s_law_other, defBody s_law_other, defScope s_law_other, [], []⟩
def dd_law_strip : He.DefD := ⟨("_law_strip", none), "_law_strip", "_law_strip", defArgs s_law_strip, defBody s_law_strip, defScope s_law_strip, [], []⟩
def dd_law_doubled : He.DefD := ⟨("_law_doubled", none), "_law_doubled", "_law_doubled", defArgs s_law_doubled, defBody s_law_doubled, defScope s_law_doubled, [], []⟩
def dd_law_crease : He.DefD := ⟨("_law_crease", none), "_law_crease", "_law_crease", defArgs s_law_crease, defBody s_law_crease, defScope s_law_crease, [], []⟩
def dd_law_are_folds : He.DefD := ⟨("_law_are_folds", none), "_law_are_folds", "_law_are_folds", defArgs s_law_are_folds, defBody s_law_are_folds, defScope s_law_are_folds, [], []⟩
def dd_law_good_recipe : He.DefD := ⟨("_law_good_recipe", none), "_law_good_recipe", "_law_good_recipe", defArgs s_law_good_recipe, defBody s_law_good_recipe, defScope s_law_good_recipe, [], []⟩
def dd_law_any_value : He.DefD := ⟨("_law_any_value", none), "_law_any_value", "_law_any_value", defArgs s_law_any_value, defBody s_law_any_value, defScope s_law_any_value, [], []⟩
def dd_law_bent : He.DefD := ⟨("_law_bent", none), "_law_bent", "_law_bent", defArgs s_law_bent, defBody s_law_bent, defScope s_law_bent, [], []⟩
def dd_law_small_right : He.DefD := ⟨("_law_small_right", none), "_law_small_right", "_law_small_right", defArgs s_law_small_right, defBody s_law_small_right, defScope s_law_small_right, [], []⟩
def dd_law_great_right : He.DefD := ⟨("_law_great_right", none), "_law_great_right", "_law_great_right", defArgs s_law_great_right, defBody s_law_great_right, defScope s_law_great_right, [], []⟩
def dd_law_names : He.DefD := ⟨("_law_names", none), "_law_names", "_law_names", defArgs s_law_names, defBody s_law_names, defScope s_law_names, [], []⟩
def dd_law_refused : He.DefD := ⟨("_law_refused", none), "_law_refused", "_law_refused", defArgs s_law_refused, defBody s_law_refused, defScope s_law_refused, [], []⟩
def dd_law : He.DefD := ⟨("law", none), "law", "law", defArgs s_law, defBody s_law, defScope s_law, [], []⟩
def dd_law_word : He.DefD := ⟨("_law_word", none), "_law_word", "_law_word", defArgs s_law_word, defBody s_law_word, defScope s_law_word, [], []⟩
def fnL : List He.DefD := [dd_is_integer, dd_is_fold, dd_are_folds, dd_is_recipe, dd_need_recipe, dd_need_many, dd_power, dd_item_of, dd_folds_of, dd_last_place, dd_halved, dd_crease_by, dd_row_by, dd_valleys_by, dd_need_place, dd_need_strip, dd_crease, dd_row, dd_valleys, dd_law_sheet, dd_law_tear, dd_law_pick, dd_law_folds, dd_law_any_recipe, dd_law_first, dd_law_other, dd_law_strip, dd_law_doubled, dd_law_crease, dd_law_are_folds, dd_law_good_recipe, dd_law_any_value, dd_law_bent, dd_law_small_right, dd_law_great_right, dd_law_names, dd_law_refused, dd_law, dd_law_word]
def faA : List He.Fa := [.glo "is_integer", .glo "is_fold", .glo "are_folds", .glo "is_recipe", .glo "need_recipe", .glo "need_many", .glo "power", .glo "item_of", .glo "folds_of", .glo "last_place", .glo "halved", .glo "crease_by", .glo "row_by", .glo "valleys_by", .glo "need_place", .glo "need_strip", .glo "crease", .glo "row", .glo "valleys", .glo "_law_sheet", .glo "_law_tear", .glo "_law_pick", .glo "_law_folds", .glo "_law_any_recipe", .glo "_law_first", .glo "_law_other", .glo "_law_strip", .glo "_law_doubled", .glo "_law_crease", .glo "_law_are_folds"]
def faB : List He.Fa := [.glo "_law_good_recipe", .glo "_law_any_value", .glo "_law_bent", .glo "_law_small_right", .glo "_law_great_right", .glo "_law_names", .glo "_law_refused", .glo "law", .glo "_law_word", .glo "InvalidRecipe", .glo "InvalidNumber", .glo "InvalidPlace", .glo "InvalidWord", .glo "InvalidSights", .glo "InvalidStep", .glo "InvalidCorner", .glo "InvalidText", .glo "InvalidFold", .glo "Impossible", .glo "Unlike", .glo "Flat", .glo "NothingToUndo", .glo "TooMany", .glo "Failed", .glo "StripError", .free "ValueError", .free "abs", .free "all", .free "bool", .free "int"]
def faC : List He.Fa := [.free "isinstance", .free "len", .free "list", .free "max", .free "min", .free "range", .free "str", .free "tuple", .free "zip", .str "HILL" "m", .int "MOST_FOLDS" 100, .int "MOST_IN_ROW" 60, .int "MOST_WRITTEN" 12, .str "OVER" "over", .str "UNDER" "under", .str "VALLEY" "v", .exc "InvalidRecipe", .exc "InvalidNumber", .exc "InvalidPlace", .exm "InvalidRecipe" "StripError" true, .exm "InvalidNumber" "StripError" true, .exm "InvalidPlace" "StripError" true]
def faL : List He.Fa := faA ++ (faB ++ faC)
def tfL : List He.Defn := [("law", none), ("_law_refused", none)]
/-- what is asked of an error's class -/
def excB (K : PySem.W.Frag) (D : Addr) : Bool := decide (PySem.W.findIn K (.ref D) "__getattribute__" = some (some (.builtin "BaseException.__getattribute__"))) && (decide (PySem.W.findIn K (.ref D) "__getattr__" = some none) && (PySem.W.hasDictIn K D && (decide (PySem.W.findIn K (.ref D) "__class__" = some (some (.builtin "object.__class__"))) &&
  (decide (PySem.W.specialIn K (.builtin "object.__class__") "__get__" = some (some (.builtin "getset_descriptor.__get__"))) && (decide (PySem.W.takesIn K (.builtin "object.__class__") = some true) && decide (PySem.W.mroIn K D (.type "object") = some true))))))
def exK (K : PySem.W.Frag) : Bool := (ers.all fun e => excB K (He.ga K e) && (decide (PySem.W.kitOne K (.ref (He.ga K e)) (.type "ValueError") = some true) && errNames.all fun n => decide (PySem.W.kitOne K (.ref (He.ga K e)) (.ref (He.ga K n)) = some (decide (n = e))))) &&
  (decide (He.ga K "crease" ≠ He.ga K "valleys") && decide ((He.cT K ("law", none)).2 ≠ (He.cT K ("_law_refused", none)).2))
theorem fnAtC_of {K : PySem.W.Frag} {mg : Str → Option Value} {x : Str} {st : Stmt} {ps : List Str} {fd : FuncData} (F : FunD K x x (defArgs st) (defBody st) (defScope st) [] [] (He.fAd K (x, none)) fd) (hm : mg x = some (.ref (He.ga K x)))
    (hb : ∀ (kV doc pm : Value) (an : Option Addr) (cdv ct : Value) (us : List Value), us.length = ps.length → bindArgs (PySem.W.fnOf x x (defArgs st) (defBody st) (defScope st) .none kV doc pm an cdv ct) ⟨us, []⟩ = pure (ps.zip us)) : FnAtC K mg x st ps (He.codeOf K (x, none)) := by
  have bnd := F.bindsN hb
  have kp := F.kp
  obtain ⟨oc, od, dV, kV, doc, pm, an, cdv, ct, osl, rfl, lk, hcd, _, _⟩ := F.ex
  obtain ⟨c, rfl⟩ := He.codeIn_ref hcd
  rw [He.codeOf_eq lk rfl]
  exact ⟨He.ga K x, oc, od, dV, kV, doc, pm, an, ct, osl, lk, hcd, kp, hm, bnd⟩
theorem word_st : WordSt s_law_word := ⟨⟨_, _, _, _, _, _, _, _, _, _, _, _, _, rfl⟩, ⟨rfl, rfl, rfl, by decide +kernel, rfl, by decide +kernel, by decide +kernel⟩, by first | exact Or.inl rfl | exact Or.inr (Or.inl rfl), rfl, rfl, rfl⟩
section
variable {K : PySem.W.Frag} {h : Heap} {mg : Str → Option Value}
theorem exc_c {D : Addr} (s : PySem.W.subIn K (.ref D) (.type "BaseException") = some true) (e : excB K D = true) : ExcC K D := by
  unfold excB at e
  simp only [Bool.and_eq_true, decide_eq_true_eq] at e
  exact ⟨e.1, e.2.1, s, e.2.2.1, e.2.2.2.1, e.2.2.2.2.1, e.2.2.2.2.2.1, e.2.2.2.2.2.2⟩
theorem glob_ok (X : K.In h) (G : h.Ns mainGlobals mg) (c : ∀ f ∈ faL, f.ok K = true) : Glob K mg (He.ga K) where
  m_ValueError := He.free_ok X G (c _ (by simp [faL, faA, faB, faC]))
  m_abs := He.free_ok X G (c _ (by simp [faL, faA, faB, faC]))
  m_all := He.free_ok X G (c _ (by simp [faL, faA, faB, faC]))
  m_bool := He.free_ok X G (c _ (by simp [faL, faA, faB, faC]))
  m_int := He.free_ok X G (c _ (by simp [faL, faA, faB, faC]))
  m_isinstance := He.free_ok X G (c _ (by simp [faL, faA, faB, faC]))
  m_len := He.free_ok X G (c _ (by simp [faL, faA, faB, faC]))
  m_list := He.free_ok X G (c _ (by simp [faL, faA, faB, faC]))
  m_max := He.free_ok X G (c _ (by simp [faL, faA, faB, faC]))
  m_min := He.free_ok X G (c _ (by simp [faL, faA, faB, faC]))
  m_range := He.free_ok X G (c _ (by simp [faL, faA, faB, faC]))
  m_str := He.free_ok X G (c _ (by simp [faL, faA, faB, faC]))
  m_tuple := He.free_ok X G (c _ (by simp [faL, faA, faB, faC]))
  m_zip := He.free_ok X G (c _ (by simp [faL, faA, faB, faC]))
  c_HILL := He.str_ok X G (c _ (by simp [faL, faA, faB, faC]))
  c_MOST_FOLDS := He.int_ok X G (c _ (by simp [faL, faA, faB, faC]))
  c_MOST_IN_ROW := He.int_ok X G (c _ (by simp [faL, faA, faB, faC]))
  c_MOST_WRITTEN := He.int_ok X G (c _ (by simp [faL, faA, faB, faC]))
  c_OVER := He.str_ok X G (c _ (by simp [faL, faA, faB, faC]))
  c_UNDER := He.str_ok X G (c _ (by simp [faL, faA, faB, faC]))
  c_VALLEY := He.str_ok X G (c _ (by simp [faL, faA, faB, faC]))
  e_InvalidNumber := by
    obtain ⟨a1, a2, a3, a4⟩ := He.exc_ok (c (.exc "InvalidNumber") (by simp [faL, faA, faB, faC]))
    exact ⟨_, He.glo_ok X G (c (.glo "InvalidNumber") (by simp [faL, faA, faB, faC])), a1, a2, a3, a4⟩
  e_InvalidPlace := by
    obtain ⟨a1, a2, a3, a4⟩ := He.exc_ok (c (.exc "InvalidPlace") (by simp [faL, faA, faB, faC]))
    exact ⟨_, He.glo_ok X G (c (.glo "InvalidPlace") (by simp [faL, faA, faB, faC])), a1, a2, a3, a4⟩
  e_InvalidRecipe := by
    obtain ⟨a1, a2, a3, a4⟩ := He.exc_ok (c (.exc "InvalidRecipe") (by simp [faL, faA, faB, faC]))
    exact ⟨_, He.glo_ok X G (c (.glo "InvalidRecipe") (by simp [faL, faA, faB, faC])), a1, a2, a3, a4⟩
  o_crease := He.glo_ok X G (c _ (by simp [faL, faA, faB, faC]))
  o_valleys := He.glo_ok X G (c _ (by simp [faL, faA, faB, faC]))
end
end FD

set_option Elab.async false
set_option linter.all false
set_option maxRecDepth 100000
set_option maxHeartbeats 0
set_option autoImplicit false
namespace FD
open PySem PySem.Spec PyProof.Rows L2
abbrev RW : PySem.W.OpenRow := PySem.W.OpenLaw.row PySem.Challenge.rw_foldedstrip_k02_whole_creases_at_all_pla
abbrev hkL : PySem.W.Hook := He.hookX 6 faL fnL [] tfL exK
def obL (s : PySem.W.SharedT) : He.AlX := He.obsX 6 faL fnL [] tfL exK (HandSHeadRun.getT s)
theorem obL_eq (s : PySem.W.SharedT) : obL s = hkL.obs s.abs := He.obsX_eq (HandSHeadRun.getT_eq s)
def looseA : List Str := ["StripError", "InvalidRecipe", "InvalidNumber", "InvalidPlace", "InvalidWord", "InvalidSights", "InvalidStep", "InvalidCorner", "InvalidText", "InvalidFold", "Impossible", "Unlike", "Flat", "NothingToUndo", "TooMany", "Failed", "MOST_FOLDS", "MOST_WRITTEN", "OVER", "UNDER", "is_integer", "is_fold", "are_folds", "is_recipe", "need_recipe", "need_many", "power", "item_of", "folds_of", "MOST_IN_ROW"]
def looseB : List Str := ["VALLEY", "HILL", "last_place", "halved", "crease_by", "row_by", "valleys_by", "need_place", "need_strip", "crease", "row", "valleys", "_law_sheet", "_law_tear", "_law_pick", "_law_folds", "_law_any_recipe"]
def looseC : List Str := ["_law_first", "_law_other", "_law_strip", "_law_doubled", "_law_crease", "_law_whole", "_law_are_folds", "_law_good_recipe", "_law_good_sights", "_law_any_value", "_law_bent", "_law_names", "_law_word", "_law_small_right", "_law_great_right", "_law_refused"]
def looseL : List Str := looseA ++ (looseB ++ looseC)
theorem run (w : World) : HandSHeadRun.RunEq RW (PySem.W.view RW.prog [67]) hkL obL 15000 looseL w := by
  intro os
  kernel_rfl
end FD

set_option Elab.async false
set_option linter.all false
set_option maxRecDepth 100000
set_option maxHeartbeats 4000000
set_option autoImplicit false
namespace FD
open PySem PySem.Spec PyProof.Rows L2 HotX L2H LamX
def isBf (K : PySem.W.Frag) (D : Addr) : V → Option Bool
  | .ref a => PySem.W.kitOne K (.ref D) (.ref a)
  | .ty n => PySem.W.kitOne K (.ref D) (.type n)
  | _ => none
theorem isBf_ok {K : PySem.W.Frag} {D : Addr} : IsOk K D (isBf K D) := fun c b e => by
  cases c with
  | ref a => exact ⟨.ref a, fun u r => r, e⟩
  | ty n => exact ⟨.type n, fun u r => r, e⟩
  | _ => cases e
abbrev lamQ (x : Str) : Str := (x ++ (".<locals>." : Str)) ++ ("<lambda>" : Str)
abbrev tbL (K : PySem.W.Frag) : Tb := [((He.cT K ("law", none)).2, lamQ "law"), ((He.cT K ("_law_refused", none)).2, lamQ "_law_refused")]
theorem law_facts {w : World} {K : PySem.W.Frag} {h : Heap} {mg : Str → Option Value} {fa : Addr} (X : K.In h) (G : h.Ns mainGlobals mg) (hfa : mg "law" = some (.ref fa)) (c : He.SaysX faL fnL [] tfL exK w h K) :
    LawAtS PySem.Challenge.rw_foldedstrip_k02_whole_creases_at_all_pla w K (L2N.CX PySem.Challenge.pw_foldedstrip_k02_whole_creases_at_all_pla w) 10 63 "_law_script" mg fa h := by
  have hf : ∀ f ∈ faL, f.ok K = true := fun f hm => c.t.d.facts hm
  have U := glob_ok X G hf
  have hx := c.more
  unfold exK at hx
  simp only [Bool.and_eq_true, List.all_eq_true, decide_eq_true_eq] at hx
  obtain ⟨hE, hne, hPP⟩ := hx
  have hcs : ∀ n ∈ errNames, mg n = some (.ref (He.ga K n)) := fun n hn => He.glo_ok X G (hf (.glo n) (by
    simp only [errNames, List.mem_cons, List.not_mem_nil, or_false] at hn
    rcases hn with rfl | rfl | rfl | rfl | rfl | rfl | rfl | rfl | rfl | rfl | rfl | rfl | rfl | rfl | rfl <;> simp [faL, faA, faB, faC]))
  have hse := He.glo_ok X G (hf (.glo "StripError") (by simp [faL, faA, faB, faC]))
  have hsub : ∀ n ∈ ers, PySem.W.subIn K (.ref (He.ga K n)) (.type "BaseException") = some true := fun n hn => (He.exc_ok (hf (.exc n) (by
    simp only [ers, List.mem_cons, List.not_mem_nil, or_false] at hn
    rcases hn with rfl | rfl | rfl <;> simp [faL, faA, faB, faC]))).2.2.1
  have hex : ∀ n ∈ ers, PySem.W.exmOne K (.ref (He.ga K n)) (.ref (He.ga K "StripError")) = some true := fun n hn => He.exm_ok (hf (.exm n "StripError" true) (by
    simp only [ers, List.mem_cons, List.not_mem_nil, or_false] at hn
    rcases hn with rfl | rfl | rfl <;> simp [faL, faA, faB, faC]))
  have ersIn : ∀ n ∈ ers, n ∈ errNames := by decide
  have F_is_integer : FnAtC K mg "is_integer" s_is_integer ["value", "low", "high"] (He.codeOf K ("is_integer", none)) := by
    obtain ⟨fd, F⟩ := c.t.d.defs (d := dd_is_integer) (by simp [fnL])
    exact fnAtC_of F (He.glo_ok X G (hf (.glo "is_integer") (by simp [faL, faA, faB, faC]))) (fun _ _ _ _ _ _ us hl => match us, hl with | [_, _, _], _ => rfl)
  have F_is_fold : FnAtC K mg "is_fold" s_is_fold ["value"] (He.codeOf K ("is_fold", none)) := by
    obtain ⟨fd, F⟩ := c.t.d.defs (d := dd_is_fold) (by simp [fnL])
    exact fnAtC_of F (He.glo_ok X G (hf (.glo "is_fold") (by simp [faL, faA, faB, faC]))) (fun _ _ _ _ _ _ us hl => match us, hl with | [_], _ => rfl)
  have F_are_folds : FnAtC K mg "are_folds" s_are_folds ["value"] (He.codeOf K ("are_folds", none)) := by
    obtain ⟨fd, F⟩ := c.t.d.defs (d := dd_are_folds) (by simp [fnL])
    exact fnAtC_of F (He.glo_ok X G (hf (.glo "are_folds") (by simp [faL, faA, faB, faC]))) (fun _ _ _ _ _ _ us hl => match us, hl with | [_], _ => rfl)
  have F_is_recipe : FnAtC K mg "is_recipe" s_is_recipe ["value"] (He.codeOf K ("is_recipe", none)) := by
    obtain ⟨fd, F⟩ := c.t.d.defs (d := dd_is_recipe) (by simp [fnL])
    exact fnAtC_of F (He.glo_ok X G (hf (.glo "is_recipe") (by simp [faL, faA, faB, faC]))) (fun _ _ _ _ _ _ us hl => match us, hl with | [_], _ => rfl)
  have F_need_recipe : FnAtC K mg "need_recipe" s_need_recipe ["value"] (He.codeOf K ("need_recipe", none)) := by
    obtain ⟨fd, F⟩ := c.t.d.defs (d := dd_need_recipe) (by simp [fnL])
    exact fnAtC_of F (He.glo_ok X G (hf (.glo "need_recipe") (by simp [faL, faA, faB, faC]))) (fun _ _ _ _ _ _ us hl => match us, hl with | [_], _ => rfl)
  have F_need_many : FnAtC K mg "need_many" s_need_many ["value"] (He.codeOf K ("need_many", none)) := by
    obtain ⟨fd, F⟩ := c.t.d.defs (d := dd_need_many) (by simp [fnL])
    exact fnAtC_of F (He.glo_ok X G (hf (.glo "need_many") (by simp [faL, faA, faB, faC]))) (fun _ _ _ _ _ _ us hl => match us, hl with | [_], _ => rfl)
  have F_power : FnAtC K mg "power" s_power ["many"] (He.codeOf K ("power", none)) := by
    obtain ⟨fd, F⟩ := c.t.d.defs (d := dd_power) (by simp [fnL])
    exact fnAtC_of F (He.glo_ok X G (hf (.glo "power") (by simp [faL, faA, faB, faC]))) (fun _ _ _ _ _ _ us hl => match us, hl with | [_], _ => rfl)
  have F_item_of : FnAtC K mg "item_of" s_item_of ["pair", "number"] (He.codeOf K ("item_of", none)) := by
    obtain ⟨fd, F⟩ := c.t.d.defs (d := dd_item_of) (by simp [fnL])
    exact fnAtC_of F (He.glo_ok X G (hf (.glo "item_of") (by simp [faL, faA, faB, faC]))) (fun _ _ _ _ _ _ us hl => match us, hl with | [_, _], _ => rfl)
  have F_folds_of : FnAtC K mg "folds_of" s_folds_of ["recipe", "many"] (He.codeOf K ("folds_of", none)) := by
    obtain ⟨fd, F⟩ := c.t.d.defs (d := dd_folds_of) (by simp [fnL])
    exact fnAtC_of F (He.glo_ok X G (hf (.glo "folds_of") (by simp [faL, faA, faB, faC]))) (fun _ _ _ _ _ _ us hl => match us, hl with | [_, _], _ => rfl)
  have F_last_place : FnAtC K mg "last_place" s_last_place ["many"] (He.codeOf K ("last_place", none)) := by
    obtain ⟨fd, F⟩ := c.t.d.defs (d := dd_last_place) (by simp [fnL])
    exact fnAtC_of F (He.glo_ok X G (hf (.glo "last_place") (by simp [faL, faA, faB, faC]))) (fun _ _ _ _ _ _ us hl => match us, hl with | [_], _ => rfl)
  have F_halved : FnAtC K mg "halved" s_halved ["place"] (He.codeOf K ("halved", none)) := by
    obtain ⟨fd, F⟩ := c.t.d.defs (d := dd_halved) (by simp [fnL])
    exact fnAtC_of F (He.glo_ok X G (hf (.glo "halved") (by simp [faL, faA, faB, faC]))) (fun _ _ _ _ _ _ us hl => match us, hl with | [_], _ => rfl)
  have F_crease_by : FnAtC K mg "crease_by" s_crease_by ["folds", "place"] (He.codeOf K ("crease_by", none)) := by
    obtain ⟨fd, F⟩ := c.t.d.defs (d := dd_crease_by) (by simp [fnL])
    exact fnAtC_of F (He.glo_ok X G (hf (.glo "crease_by") (by simp [faL, faA, faB, faC]))) (fun _ _ _ _ _ _ us hl => match us, hl with | [_, _], _ => rfl)
  have F_row_by : FnAtC K mg "row_by" s_row_by ["folds", "place", "length"] (He.codeOf K ("row_by", none)) := by
    obtain ⟨fd, F⟩ := c.t.d.defs (d := dd_row_by) (by simp [fnL])
    exact fnAtC_of F (He.glo_ok X G (hf (.glo "row_by") (by simp [faL, faA, faB, faC]))) (fun _ _ _ _ _ _ us hl => match us, hl with | [_, _, _], _ => rfl)
  have F_valleys_by : FnAtC K mg "valleys_by" s_valleys_by ["folds", "place"] (He.codeOf K ("valleys_by", none)) := by
    obtain ⟨fd, F⟩ := c.t.d.defs (d := dd_valleys_by) (by simp [fnL])
    exact fnAtC_of F (He.glo_ok X G (hf (.glo "valleys_by") (by simp [faL, faA, faB, faC]))) (fun _ _ _ _ _ _ us hl => match us, hl with | [_, _], _ => rfl)
  have F_need_place : FnAtC K mg "need_place" s_need_place ["many", "place"] (He.codeOf K ("need_place", none)) := by
    obtain ⟨fd, F⟩ := c.t.d.defs (d := dd_need_place) (by simp [fnL])
    exact fnAtC_of F (He.glo_ok X G (hf (.glo "need_place") (by simp [faL, faA, faB, faC]))) (fun _ _ _ _ _ _ us hl => match us, hl with | [_, _], _ => rfl)
  have F_need_strip : FnAtC K mg "need_strip" s_need_strip ["recipe", "many"] (He.codeOf K ("need_strip", none)) := by
    obtain ⟨fd, F⟩ := c.t.d.defs (d := dd_need_strip) (by simp [fnL])
    exact fnAtC_of F (He.glo_ok X G (hf (.glo "need_strip") (by simp [faL, faA, faB, faC]))) (fun _ _ _ _ _ _ us hl => match us, hl with | [_, _], _ => rfl)
  have F_crease : FnAtC K mg "crease" s_crease ["recipe", "many", "place"] (He.codeOf K ("crease", none)) := by
    obtain ⟨fd, F⟩ := c.t.d.defs (d := dd_crease) (by simp [fnL])
    exact fnAtC_of F (He.glo_ok X G (hf (.glo "crease") (by simp [faL, faA, faB, faC]))) (fun _ _ _ _ _ _ us hl => match us, hl with | [_, _, _], _ => rfl)
  have F_row : FnAtC K mg "row" s_row ["recipe", "many", "place", "length"] (He.codeOf K ("row", none)) := by
    obtain ⟨fd, F⟩ := c.t.d.defs (d := dd_row) (by simp [fnL])
    exact fnAtC_of F (He.glo_ok X G (hf (.glo "row") (by simp [faL, faA, faB, faC]))) (fun _ _ _ _ _ _ us hl => match us, hl with | [_, _, _, _], _ => rfl)
  have F_valleys : FnAtC K mg "valleys" s_valleys ["recipe", "many", "place"] (He.codeOf K ("valleys", none)) := by
    obtain ⟨fd, F⟩ := c.t.d.defs (d := dd_valleys) (by simp [fnL])
    exact fnAtC_of F (He.glo_ok X G (hf (.glo "valleys") (by simp [faL, faA, faB, faC]))) (fun _ _ _ _ _ _ us hl => match us, hl with | [_, _, _], _ => rfl)
  have F_law_sheet : FnAtC K mg "_law_sheet" s_law_sheet ["_law_script", "_law_k"] (He.codeOf K ("_law_sheet", none)) := by
    obtain ⟨fd, F⟩ := c.t.d.defs (d := dd_law_sheet) (by simp [fnL])
    exact fnAtC_of F (He.glo_ok X G (hf (.glo "_law_sheet") (by simp [faL, faA, faB, faC]))) (fun _ _ _ _ _ _ us hl => match us, hl with | [_, _], _ => rfl)
  have F_law_tear : FnAtC K mg "_law_tear" s_law_tear ["_law_sheet_here", "_law_many"] (He.codeOf K ("_law_tear", none)) := by
    obtain ⟨fd, F⟩ := c.t.d.defs (d := dd_law_tear) (by simp [fnL])
    exact fnAtC_of F (He.glo_ok X G (hf (.glo "_law_tear") (by simp [faL, faA, faB, faC]))) (fun _ _ _ _ _ _ us hl => match us, hl with | [_, _], _ => rfl)
  have F_law_pick : FnAtC K mg "_law_pick" s_law_pick ["_law_sheet_here", "_law_things"] (He.codeOf K ("_law_pick", none)) := by
    obtain ⟨fd, F⟩ := c.t.d.defs (d := dd_law_pick) (by simp [fnL])
    exact fnAtC_of F (He.glo_ok X G (hf (.glo "_law_pick") (by simp [faL, faA, faB, faC]))) (fun _ _ _ _ _ _ us hl => match us, hl with | [_, _], _ => rfl)
  have F_law_folds : FnAtC K mg "_law_folds" s_law_folds ["_law_sheet_here", "_law_many"] (He.codeOf K ("_law_folds", none)) := by
    obtain ⟨fd, F⟩ := c.t.d.defs (d := dd_law_folds) (by simp [fnL])
    exact fnAtC_of F (He.glo_ok X G (hf (.glo "_law_folds") (by simp [faL, faA, faB, faC]))) (fun _ _ _ _ _ _ us hl => match us, hl with | [_, _], _ => rfl)
  have F_law_any_recipe : FnAtC K mg "_law_any_recipe" s_law_any_recipe ["_law_sheet_here", "_law_most"] (He.codeOf K ("_law_any_recipe", none)) := by
    obtain ⟨fd, F⟩ := c.t.d.defs (d := dd_law_any_recipe) (by simp [fnL])
    exact fnAtC_of F (He.glo_ok X G (hf (.glo "_law_any_recipe") (by simp [faL, faA, faB, faC]))) (fun _ _ _ _ _ _ us hl => match us, hl with | [_, _], _ => rfl)
  have F_law_first : FnAtC K mg "_law_first" s_law_first ["_law_recipe", "_law_many"] (He.codeOf K ("_law_first", none)) := by
    obtain ⟨fd, F⟩ := c.t.d.defs (d := dd_law_first) (by simp [fnL])
    exact fnAtC_of F (He.glo_ok X G (hf (.glo "_law_first") (by simp [faL, faA, faB, faC]))) (fun _ _ _ _ _ _ us hl => match us, hl with | [_, _], _ => rfl)
  have F_law_other : FnAtC K mg "_law_other" s_law_other ["_law_strand"] (He.codeOf K ("_law_other", none)) := by
    obtain ⟨fd, F⟩ := c.t.d.defs (d := dd_law_other) (by simp [fnL])
    exact fnAtC_of F (He.glo_ok X G (hf (.glo "_law_other") (by simp [faL, faA, faB, faC]))) (fun _ _ _ _ _ _ us hl => match us, hl with | [_], _ => rfl)
  have F_law_strip : FnAtC K mg "_law_strip" s_law_strip ["_law_folds_here"] (He.codeOf K ("_law_strip", none)) := by
    obtain ⟨fd, F⟩ := c.t.d.defs (d := dd_law_strip) (by simp [fnL])
    exact fnAtC_of F (He.glo_ok X G (hf (.glo "_law_strip") (by simp [faL, faA, faB, faC]))) (fun _ _ _ _ _ _ us hl => match us, hl with | [_], _ => rfl)
  have F_law_doubled : FnAtC K mg "_law_doubled" s_law_doubled ["_law_many"] (He.codeOf K ("_law_doubled", none)) := by
    obtain ⟨fd, F⟩ := c.t.d.defs (d := dd_law_doubled) (by simp [fnL])
    exact fnAtC_of F (He.glo_ok X G (hf (.glo "_law_doubled") (by simp [faL, faA, faB, faC]))) (fun _ _ _ _ _ _ us hl => match us, hl with | [_], _ => rfl)
  have F_law_crease : FnAtC K mg "_law_crease" s_law_crease ["_law_folds_here", "_law_place"] (He.codeOf K ("_law_crease", none)) := by
    obtain ⟨fd, F⟩ := c.t.d.defs (d := dd_law_crease) (by simp [fnL])
    exact fnAtC_of F (He.glo_ok X G (hf (.glo "_law_crease") (by simp [faL, faA, faB, faC]))) (fun _ _ _ _ _ _ us hl => match us, hl with | [_, _], _ => rfl)
  have F_law_are_folds : FnAtC K mg "_law_are_folds" s_law_are_folds ["_law_value", "_law_low", "_law_high"] (He.codeOf K ("_law_are_folds", none)) := by
    obtain ⟨fd, F⟩ := c.t.d.defs (d := dd_law_are_folds) (by simp [fnL])
    exact fnAtC_of F (He.glo_ok X G (hf (.glo "_law_are_folds") (by simp [faL, faA, faB, faC]))) (fun _ _ _ _ _ _ us hl => match us, hl with | [_, _, _], _ => rfl)
  have F_law_good_recipe : FnAtC K mg "_law_good_recipe" s_law_good_recipe ["_law_value"] (He.codeOf K ("_law_good_recipe", none)) := by
    obtain ⟨fd, F⟩ := c.t.d.defs (d := dd_law_good_recipe) (by simp [fnL])
    exact fnAtC_of F (He.glo_ok X G (hf (.glo "_law_good_recipe") (by simp [faL, faA, faB, faC]))) (fun _ _ _ _ _ _ us hl => match us, hl with | [_], _ => rfl)
  have F_law_any_value : FnAtC K mg "_law_any_value" s_law_any_value ["_law_sheet_here", "_law_deep"] (He.codeOf K ("_law_any_value", none)) := by
    obtain ⟨fd, F⟩ := c.t.d.defs (d := dd_law_any_value) (by simp [fnL])
    exact fnAtC_of F (He.glo_ok X G (hf (.glo "_law_any_value") (by simp [faL, faA, faB, faC]))) (fun _ _ _ _ _ _ us hl => match us, hl with | [_, _], _ => rfl)
  have F_law_bent : FnAtC K mg "_law_bent" s_law_bent ["_law_sheet_here", "_law_value"] (He.codeOf K ("_law_bent", none)) := by
    obtain ⟨fd, F⟩ := c.t.d.defs (d := dd_law_bent) (by simp [fnL])
    exact fnAtC_of F (He.glo_ok X G (hf (.glo "_law_bent") (by simp [faL, faA, faB, faC]))) (fun _ _ _ _ _ _ us hl => match us, hl with | [_, _], _ => rfl)
  have F_law_small_right : FnAtC K mg "_law_small_right" s_law_small_right ["_law_recipe", "_law_many"] (He.codeOf K ("_law_small_right", none)) := by
    obtain ⟨fd, F⟩ := c.t.d.defs (d := dd_law_small_right) (by simp [fnL])
    exact fnAtC_of F (He.glo_ok X G (hf (.glo "_law_small_right") (by simp [faL, faA, faB, faC]))) (fun _ _ _ _ _ _ us hl => match us, hl with | [_, _], _ => rfl)
  have F_law_great_right : FnAtC K mg "_law_great_right" s_law_great_right ["_law_sheet_here", "_law_recipe", "_law_many"] (He.codeOf K ("_law_great_right", none)) := by
    obtain ⟨fd, F⟩ := c.t.d.defs (d := dd_law_great_right) (by simp [fnL])
    exact fnAtC_of F (He.glo_ok X G (hf (.glo "_law_great_right") (by simp [faL, faA, faB, faC]))) (fun _ _ _ _ _ _ us hl => match us, hl with | [_, _, _], _ => rfl)
  have F_law_names : FnAtC K mg "_law_names" s_law_names ["_law_error"] (He.codeOf K ("_law_names", none)) := by
    obtain ⟨fd, F⟩ := c.t.d.defs (d := dd_law_names) (by simp [fnL])
    exact fnAtC_of F (He.glo_ok X G (hf (.glo "_law_names") (by simp [faL, faA, faB, faC]))) (fun _ _ _ _ _ _ us hl => match us, hl with | [_], _ => rfl)
  have F_law_refused : FnAtC K mg "_law_refused" s_law_refused ["_law_recipe"] (He.codeOf K ("_law_refused", none)) := by
    obtain ⟨fd, F⟩ := c.t.d.defs (d := dd_law_refused) (by simp [fnL])
    exact fnAtC_of F (He.glo_ok X G (hf (.glo "_law_refused") (by simp [faL, faA, faB, faC]))) (fun _ _ _ _ _ _ us hl => match us, hl with | [_], _ => rfl)
  have F_law_word : FnAtC K mg "_law_word" s_law_word ["_law_call"] (He.codeOf K ("_law_word", none)) := by
    obtain ⟨fd, F⟩ := c.t.d.defs (d := dd_law_word) (by simp [fnL])
    exact fnAtC_of F (He.glo_ok X G (hf (.glo "_law_word") (by simp [faL, faA, faB, faC]))) (fun _ _ _ _ _ _ us hl => match us, hl with | [_], _ => rfl)
  obtain ⟨fdL, FL⟩ := c.t.d.defs (d := dd_law) (by simp [fnL])
  have hbA := fun (s : Shared) (u : Value) => FunD.bindsA (ps := ["_law_script"]) FL (fun _ _ _ _ _ _ us hl => match us, hl with | [_], _ => rfl) s [u] rfl
  have gx0 := He.glo_ok X G (hf (.glo "law") (by simp [faL, faA, faB, faC]))
  obtain rfl : fa = He.ga K "law" := Value.ref.inj (Option.some.inj (hfa.symm.trans gx0))
  obtain ⟨oc0, od0, dV0, kV0, doc0, pm0, an0, cdv0, ct0, osl0, efd, lk0, hcd0, _, _⟩ := FL.ex
  obtain ⟨c0, rfl⟩ := He.codeIn_ref hcd0
  subst efd
  have e0 : He.codeOf K ("law", none) = c0 := He.codeOf_eq lk0 rfl
  subst e0
  refine ⟨PySem.W.fnOf "law" "law" (defArgs s_law) (defBody s_law) (defScope s_law) dV0 kV0 doc0 pm0 an0 (.ref (He.codeOf K ("law", none))) ct0, [He.cT K ("law", none), He.cT K ("_law_refused", none)], spD ⟨K, mg, tbL K, fun _ _ _ => False⟩ sp_law, fun p hp => ?_, fun p hp => ?_, fun p hp => ?_, fun s u => ?_, ?_, fun base Xb Gb TB => ?_⟩
  · simp only [List.mem_cons, List.not_mem_nil, or_false] at hp
    rcases hp with rfl | rfl
    · exact c.empty ("law", none) (by simp [tfL])
    · exact c.empty ("_law_refused", none) (by simp [tfL])
  · simp only [List.mem_cons, List.not_mem_nil, or_false] at hp
    rcases hp with rfl | rfl
    · exact c.out ("law", none) (by simp [tfL])
    · exact c.out ("_law_refused", none) (by simp [tfL])
  · simp only [List.mem_cons, List.not_mem_nil, or_false] at hp
    rcases hp with rfl | rfl
    · exact PySem.W.codeHd_of_K X (c.hd ("law", none) (by simp [tfL]))
    · exact PySem.W.codeHd_of_K X (c.hd ("_law_refused", none) (by simp [tfL]))
  · exact hbA s u
  · intro H a ns hl hb hT hS
    have eH : hide (fun _ => false) (fun _ => none) H = H := by funext b; rfl
    refine ⟨fun _ => false, [.scr ns], fun _ => none, fun d _ => d = .bl true, fun _ _ => False, .cons (.scr (by rw [eH]; exact hS)) .nil, ⟨fun a m z => (nomatch z), fun p hp => ?_, fun a m => (nomatch m)⟩, fun _ _ _ _ _ _ z => False.elim z, ⟨by omega, fun _ => rfl⟩, fun v H' d G' g r q => ?_⟩
    · rw [eH]
      simp only [tbL, List.mem_cons, List.not_mem_nil, or_false] at hp
      rcases hp with rfl | rfl
      · exact .nil (hT (He.cT K ("law", none)) (by simp))
      · exact .nil (hT (He.cT K ("_law_refused", none)) (by simp))
    · have q : d = .bl true := q
      subst q
      cases r; rfl
  · have TB1 := TB (He.cT K ("law", none)) (by simp)
    have TB2 := TB (He.cT K ("_law_refused", none)) (by simp)
    have hu1 : ∀ p ∈ tbL K, p.1 = (He.cT K ("law", none)).2 → p.2 = lamQ "law" := fun p hp e => by
      simp only [tbL, List.mem_cons, List.not_mem_nil, or_false] at hp
      rcases hp with rfl | rfl
      · rfl
      · exact absurd e.symm hPP
    have hu2 : ∀ p ∈ tbL K, p.1 = (He.cT K ("_law_refused", none)).2 → p.2 = lamQ "_law_refused" := fun p hp e => by
      simp only [tbL, List.mem_cons, List.not_mem_nil, or_false] at hp
      rcases hp with rfl | rfl
      · exact absurd e hPP
      · rfl
    have W : WordOk PySem.Challenge.pw_foldedstrip_k02_whole_creases_at_all_pla w K mg base (tbL K) s_law_word (He.ga K) ers 1 := by
      obtain ⟨fy, oc, od, dV, kV, doc, pm, an, ct, osl, lk, hcd, kp, gx, bnd⟩ := F_law_names
      exact ⟨⟨_, F_law_word⟩, ⟨fy, _, ["_law_error"], gx, kp, bnd, rfl, fun nm hm => ok_law_names (isB := isBf K (He.ga K nm)) U hcs (exc_c (hsub nm hm) (hE nm hm).1) isBf_ok (fun n hn => (hE nm hm).2.2 n hn) (hE nm hm).2.1 lk hcd⟩, fun nm hm => hcs nm (ersIn nm hm), hse, hex⟩
    have d_is_integer : Def PySem.Challenge.pw_foldedstrip_k02_whole_creases_at_all_pla w K mg base (tbL K) _ "is_integer" sp_is_integer := ok_is_integer U  ⟨_, F_is_integer⟩
    have d_is_fold : Def PySem.Challenge.pw_foldedstrip_k02_whole_creases_at_all_pla w K mg base (tbL K) _ "is_fold" sp_is_fold := ok_is_fold U  ⟨_, F_is_fold⟩
    have d_are_folds : Def PySem.Challenge.pw_foldedstrip_k02_whole_creases_at_all_pla w K mg base (tbL K) _ "are_folds" sp_are_folds := ok_are_folds U d_is_fold ⟨_, F_are_folds⟩
    have d_is_recipe : Def PySem.Challenge.pw_foldedstrip_k02_whole_creases_at_all_pla w K mg base (tbL K) _ "is_recipe" sp_is_recipe := ok_is_recipe U d_are_folds ⟨_, F_is_recipe⟩
    have d_need_recipe : Def PySem.Challenge.pw_foldedstrip_k02_whole_creases_at_all_pla w K mg base (tbL K) _ "need_recipe" sp_need_recipe := ok_need_recipe U d_is_recipe ⟨_, F_need_recipe⟩
    have d_need_many : Def PySem.Challenge.pw_foldedstrip_k02_whole_creases_at_all_pla w K mg base (tbL K) _ "need_many" sp_need_many := ok_need_many U d_is_integer ⟨_, F_need_many⟩
    have d_power : Def PySem.Challenge.pw_foldedstrip_k02_whole_creases_at_all_pla w K mg base (tbL K) _ "power" sp_power := ok_power U  ⟨_, F_power⟩
    have d_item_of : Def PySem.Challenge.pw_foldedstrip_k02_whole_creases_at_all_pla w K mg base (tbL K) _ "item_of" sp_item_of := ok_item_of U  ⟨_, F_item_of⟩
    have d_folds_of : Def PySem.Challenge.pw_foldedstrip_k02_whole_creases_at_all_pla w K mg base (tbL K) _ "folds_of" sp_folds_of := ok_folds_of U d_item_of ⟨_, F_folds_of⟩
    have d_last_place : Def PySem.Challenge.pw_foldedstrip_k02_whole_creases_at_all_pla w K mg base (tbL K) _ "last_place" sp_last_place := ok_last_place U d_power ⟨_, F_last_place⟩
    have d_halved : Def PySem.Challenge.pw_foldedstrip_k02_whole_creases_at_all_pla w K mg base (tbL K) _ "halved" sp_halved := ok_halved U  ⟨_, F_halved⟩
    have d_crease_by : Def PySem.Challenge.pw_foldedstrip_k02_whole_creases_at_all_pla w K mg base (tbL K) _ "crease_by" sp_crease_by := ok_crease_by U d_halved ⟨_, F_crease_by⟩
    have d_row_by : Def PySem.Challenge.pw_foldedstrip_k02_whole_creases_at_all_pla w K mg base (tbL K) _ "row_by" sp_row_by := ok_row_by U d_crease_by ⟨_, F_row_by⟩
    have d_valleys_by : Def PySem.Challenge.pw_foldedstrip_k02_whole_creases_at_all_pla w K mg base (tbL K) _ "valleys_by" sp_valleys_by := ok_valleys_by U  ⟨_, F_valleys_by⟩
    have d_need_place : Def PySem.Challenge.pw_foldedstrip_k02_whole_creases_at_all_pla w K mg base (tbL K) _ "need_place" sp_need_place := ok_need_place U d_is_integer d_last_place ⟨_, F_need_place⟩
    have d_need_strip : Def PySem.Challenge.pw_foldedstrip_k02_whole_creases_at_all_pla w K mg base (tbL K) _ "need_strip" sp_need_strip := ok_need_strip U d_need_recipe d_need_many ⟨_, F_need_strip⟩
    have d_crease : Def PySem.Challenge.pw_foldedstrip_k02_whole_creases_at_all_pla w K mg base (tbL K) _ "crease" sp_crease := ok_crease U d_need_strip d_need_place d_crease_by d_folds_of ⟨_, F_crease⟩
    have d_row : Def PySem.Challenge.pw_foldedstrip_k02_whole_creases_at_all_pla w K mg base (tbL K) _ "row" sp_row := ok_row U d_need_strip d_need_place d_is_integer d_last_place d_row_by d_folds_of ⟨_, F_row⟩
    have d_valleys : Def PySem.Challenge.pw_foldedstrip_k02_whole_creases_at_all_pla w K mg base (tbL K) _ "valleys" sp_valleys := ok_valleys U d_need_strip d_need_place d_valleys_by d_folds_of ⟨_, F_valleys⟩
    have d_law_sheet : Def PySem.Challenge.pw_foldedstrip_k02_whole_creases_at_all_pla w K mg base (tbL K) _ "_law_sheet" sp_law_sheet := ok_law_sheet U  ⟨_, F_law_sheet⟩
    have d_law_tear : Def PySem.Challenge.pw_foldedstrip_k02_whole_creases_at_all_pla w K mg base (tbL K) _ "_law_tear" sp_law_tear := ok_law_tear U  ⟨_, F_law_tear⟩
    have d_law_pick : Def PySem.Challenge.pw_foldedstrip_k02_whole_creases_at_all_pla w K mg base (tbL K) _ "_law_pick" sp_law_pick := ok_law_pick U d_law_tear ⟨_, F_law_pick⟩
    have d_law_folds : Def PySem.Challenge.pw_foldedstrip_k02_whole_creases_at_all_pla w K mg base (tbL K) _ "_law_folds" sp_law_folds := ok_law_folds U d_law_pick ⟨_, F_law_folds⟩
    have d_law_any_recipe : Def PySem.Challenge.pw_foldedstrip_k02_whole_creases_at_all_pla w K mg base (tbL K) _ "_law_any_recipe" sp_law_any_recipe := ok_law_any_recipe U d_law_folds d_law_tear ⟨_, F_law_any_recipe⟩
    have d_law_first : Def PySem.Challenge.pw_foldedstrip_k02_whole_creases_at_all_pla w K mg base (tbL K) _ "_law_first" sp_law_first := ok_law_first U  ⟨_, F_law_first⟩
    have d_law_other : Def PySem.Challenge.pw_foldedstrip_k02_whole_creases_at_all_pla w K mg base (tbL K) _ "_law_other" sp_law_other := ok_law_other U  ⟨_, F_law_other⟩
    have d_law_strip : Def PySem.Challenge.pw_foldedstrip_k02_whole_creases_at_all_pla w K mg base (tbL K) _ "_law_strip" sp_law_strip := ok_law_strip U d_law_other ⟨_, F_law_strip⟩
    have d_law_doubled : Def PySem.Challenge.pw_foldedstrip_k02_whole_creases_at_all_pla w K mg base (tbL K) _ "_law_doubled" sp_law_doubled := ok_law_doubled U  ⟨_, F_law_doubled⟩
    have d_law_crease : Def PySem.Challenge.pw_foldedstrip_k02_whole_creases_at_all_pla w K mg base (tbL K) _ "_law_crease" sp_law_crease := ok_law_crease U d_law_doubled ⟨_, F_law_crease⟩
    have d_law_are_folds : Def PySem.Challenge.pw_foldedstrip_k02_whole_creases_at_all_pla w K mg base (tbL K) _ "_law_are_folds" sp_law_are_folds := ok_law_are_folds U  ⟨_, F_law_are_folds⟩
    have d_law_good_recipe : Def PySem.Challenge.pw_foldedstrip_k02_whole_creases_at_all_pla w K mg base (tbL K) _ "_law_good_recipe" sp_law_good_recipe := ok_law_good_recipe U d_law_are_folds ⟨_, F_law_good_recipe⟩
    have z_law_any_value_0 : Def PySem.Challenge.pw_foldedstrip_k02_whole_creases_at_all_pla w K mg base (tbL K) (2 + 0) "_law_any_value" (sp_law_any_value 0) := def_zero F_law_any_value (fun _ _ _ _ h => h)
    have z_law_any_value_1 := ok_law_any_value U 0 d_law_tear d_law_pick z_law_any_value_0 ⟨_, F_law_any_value⟩
    have z_law_any_value_2 := ok_law_any_value U 1 d_law_tear d_law_pick z_law_any_value_1 ⟨_, F_law_any_value⟩
    have d_law_any_value := z_law_any_value_2
    have z_law_bent_0 : Def PySem.Challenge.pw_foldedstrip_k02_whole_creases_at_all_pla w K mg base (tbL K) (4 + 0) "_law_bent" (sp_law_bent 0) := def_zero F_law_bent (fun _ _ _ _ h => h)
    have z_law_bent_1 := ok_law_bent U 0 d_law_tear d_law_any_value d_law_pick z_law_bent_0 ⟨_, F_law_bent⟩
    have z_law_bent_2 := ok_law_bent U 1 d_law_tear d_law_any_value d_law_pick z_law_bent_1 ⟨_, F_law_bent⟩
    have z_law_bent_3 := ok_law_bent U 2 d_law_tear d_law_any_value d_law_pick z_law_bent_2 ⟨_, F_law_bent⟩
    have d_law_bent := z_law_bent_3
    have d_law_small_right : Def PySem.Challenge.pw_foldedstrip_k02_whole_creases_at_all_pla w K mg base (tbL K) _ "_law_small_right" sp_law_small_right := ok_law_small_right U d_law_strip d_law_first d_crease d_law_doubled d_valleys d_row ⟨_, F_law_small_right⟩
    have d_law_great_right : Def PySem.Challenge.pw_foldedstrip_k02_whole_creases_at_all_pla w K mg base (tbL K) _ "_law_great_right" sp_law_great_right := ok_law_great_right U d_law_doubled d_law_first d_law_tear d_crease d_law_crease d_row d_valleys ⟨_, F_law_great_right⟩
    have d_law_refused := ok_law_refused U hne W word_st TB2 (by simp) hu2 d_row d_crease d_valleys F_law_refused
    exact ok_law U hne W word_st TB1 (by simp) hu1 d_law_sheet d_law_any_recipe d_law_pick d_law_tear d_law_small_right d_law_great_right d_law_bent d_law_good_recipe d_law_refused d_row d_crease d_valleys lk0 hcd0
end FD

set_option Elab.async false
set_option linter.all false
set_option maxRecDepth 100000
set_option maxHeartbeats 0
set_option autoImplicit false
open PySem PySem.W PySem.Calls PyProof.Rows
theorem PySem.Challenge.cw_foldedstrip_k02_whole_creases_at_all_pla_holds : PySem.Challenge.rw_foldedstrip_k02_whole_creases_at_all_pla.Holds := by
  w_on; o_law
  refine HandSHeadRun.head_any (r := FD.RW) (q := view FD.RW.prog [67]) (H := FD.hkL) (ob := FD.obL) (M := 15000) (loose := FD.looseL) (d := HandSHeadRun.topDef FD.RW.prog 67) (kwd := []) FD.obL_eq
    (by kernel_rfl) (fun s => by kernel_rfl) FD.run (by kernel_rfl) (by kernel_rfl) (by kernel_rfl) (by rfl) (by first | assumption | decide +kernel) (by decide +kernel) ⟨rfl, rfl, rfl, rfl, rfl, by decide +kernel⟩ ?hw ?hc
  case hw => w_witness2
  case hc =>
    refine LamX.walk_ofTsE (l := PySem.Challenge.rw_foldedstrip_k02_whole_creases_at_all_pla) (n := 63) (k := 10) (x := "_law_script") (CX := fun w => L2N.CX PySem.Challenge.pw_foldedstrip_k02_whole_creases_at_all_pla w) rfl (by decide) (by kernel_rfl) ⟨rfl, by decide, by decide⟩ ?F (fun w H s e s' z => ?_)
    case F =>
      intro w mg fa h Y G hmg0
      obtain ⟨K, KX, c⟩ := Y
      have hmg : mg ("law" : PySem.Str) = some (.ref fa) := by
        have e : (HandSHeadRun.topDef FD.RW.prog 67).name = ("law" : PySem.Str) := by kernel_rfl
        rw [← e]
        exact hmg0
      exact ⟨K, KX, FD.law_facts KX G hmg c⟩
    · obtain ⟨_, _, _, _, _, _, _, _, _, _, _, _, z⟩ := z
      exact z

