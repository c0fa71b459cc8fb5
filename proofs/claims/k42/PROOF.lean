import PyProof.Rows.All
import Wide.All
import OpenK.AllK
import Wide.FinOn
import KE.KStateDown
import KE.KDictCopyH
import HandS.RaiseMore
import HandS.ForMost
import HandS.ForExc
import HandS.Defaults
import HandS.Head0
import HandS.Head1
import HandS.Head2
import HandS.HeadEnd
import HandS.HeadHook1
import HandS.HeadHook2
import HandS.EndBits
import HandS.Wide
import HandS.IsInst
import HandS.SortInts
import HandS.SortRule
import HandS.TupAny
import HandS.Style
import HandS.TupLe
import HandS.Conv
import HandS.Flow
import HandS.CallSlots
import HandS.Zip
import HandS.Deep
import HandS.Set
import HandS.Strs
import HandS.SetFor
import PyProof.StrBlock2
import HandS.TupMul
import HandS.ExcIs
import HandS.SetKeys
import HandS.More
import HandS.Small
import KE.SortData
import PySem.Challenge.RW_panelook_k42_written
set_option Elab.async false
set_option linter.all false
set_option maxRecDepth 100000
set_option maxHeartbeats 4000000
namespace M3
open PySem PySem.Spec PyProof.Rows L2
inductive W where
  | non | bl (b : Bool) | int (i : Int) | str (x : Str) | ref (a : Addr) | ty (n : String) | tup (ws : List W)
  | rol (ws : List W)
inductive MO where
  | lst (ws : List W)
  | ins (C : Addr) (fs : List (Str × W))
  | dk (fz : Bool) (kvs : List (Key × W))
  | dt (fz : Bool) (kvs : List (List Key × W))
abbrev Sto := Addr → Option MO
abbrev Envr := List (Option W)
def put (S : Sto) (a : Addr) (o : MO) : Sto := fun b => if b = a then some o else S b
theorem put_same {S : Sto} {a : Addr} {o : MO} : put S a o a = some o := if_pos rfl
theorem put_ne {S : Sto} {a b : Addr} {o : MO} (h : b ≠ a) : put S a o b = S b := if_neg h
theorem put_put {S : Sto} {a : Addr} {o u : MO} : put (put S a o) a u = put S a u := by
  funext b; unfold put; split <;> rfl
def Sub (S T : Sto) : Prop := ∀ a o, S a = some o → T a = some o
theorem Sub.refl (S : Sto) : Sub S S := fun _ _ h => h
theorem Sub.trans {S T U : Sto} (a : Sub S T) (b : Sub T U) : Sub S U := fun c o h => b c o (a c o h)
theorem Sub.put {S : Sto} {p : Addr} {o : MO} (h : S p = none) : Sub S (put S p o) := fun a u e => by
  have : a ≠ p := fun z => by subst z; rw [h] at e; cases e
  rw [put_ne this]; exact e
def SqR (K : PySem.W.Frag) (H : Hp) (a : Addr) (xs : List V) : Prop :=
  (∃ o, H a = some (.frz o (.lst xs))) ∨
    ∃ (o : Obj) (its : Array Value) (n : Nat), K.lookup a = some o ∧ o.cls = .type "list" ∧ o.dict = none ∧ o.data = .seq its n ∧ its.size ≤ sizeLine ∧ Vals xs its.toList
theorem SqR.sql {K : PySem.W.Frag} {H : Hp} {a : Addr} {xs : List V} (h : SqR K H a xs) : SqL K H a xs := h.elim (fun q => .inl (.inr q)) .inr
mutual
inductive RepW (K : PySem.W.Frag) (H : Hp) : W → V → Prop
  | non : RepW K H .non .non
  | bl (b : Bool) : RepW K H (.bl b) (.bl b)
  | int (i : Int) : RepW K H (.int i) (.int i)
  | str (x : Str) : RepW K H (.str x) (.str x)
  | ref (a : Addr) : RepW K H (.ref a) (.ref a)
  | ty (n : String) : RepW K H (.ty n) (.ty n)
  | tup {ws : List W} {a : Addr} {vs : List V} : H a = some (.tup vs) → RepWs K H ws vs → RepW K H (.tup ws) (.ref a)
  | rol {ws : List W} {a : Addr} {vs : List V} : SqR K H a vs → RepWs K H ws vs → RepW K H (.rol ws) (.ref a)
inductive RepWs (K : PySem.W.Frag) (H : Hp) : List W → List V → Prop
  | nil : RepWs K H [] []
  | cons {w : W} {ws : List W} {v : V} {vs : List V} : RepW K H w v → RepWs K H ws vs → RepWs K H (w :: ws) (v :: vs)
end
section
variable {K : PySem.W.Frag} {H H' : Hp}
def Stay (K : PySem.W.Frag) (H H' : Hp) : Prop := (∀ a vs, H a = some (HO.tup vs) → H' a = some (HO.tup vs)) ∧ ∀ a vs, SqR K H a vs → SqR K H' a vs
mutual
theorem RepW.mono (h : Stay K H H') : ∀ {w : W} {v : V}, RepW K H w v → RepW K H' w v
  | _, _, .non => .non
  | _, _, .bl b => .bl b
  | _, _, .int i => .int i
  | _, _, .str x => .str x
  | _, _, .ref a => .ref a
  | _, _, .ty n => .ty n
  | _, _, .tup q r => .tup (h.1 _ _ q) (RepWs.mono h r)
  | _, _, .rol q r => .rol (h.2 _ _ q) (RepWs.mono h r)
theorem RepWs.mono (h : Stay K H H') : ∀ {ws : List W} {vs : List V}, RepWs K H ws vs → RepWs K H' ws vs
  | _, _, .nil => .nil
  | _, _, .cons r t => .cons (RepW.mono h r) (RepWs.mono h t)
end
theorem RepWs.length : ∀ {ws : List W} {vs : List V}, RepWs K H ws vs → ws.length = vs.length
  | _, _, .nil => rfl
  | _, _, .cons _ t => by simp [RepWs.length t]
theorem RepWs.get : ∀ {ws : List W} {vs : List V} {i : Nat} {w : W}, RepWs K H ws vs → ws[i]? = some w → ∃ v, vs[i]? = some v ∧ RepW K H w v
  | _, _, _, _, .nil, e => by simp at e
  | _, _, 0, _, .cons r _, e => by simp at e; subst e; exact ⟨_, rfl, r⟩
  | _, _, i + 1, w, .cons _ t, e => by
    obtain ⟨u, h1, h2⟩ := RepWs.get (i := i) (w := w) t (by simpa using e)
    exact ⟨u, by simpa using h1, h2⟩
theorem RepWs.append : ∀ {ws xs : List W} {vs us : List V}, RepWs K H ws vs → RepWs K H xs us → RepWs K H (ws ++ xs) (vs ++ us)
  | _, _, _, _, .nil, s => s
  | _, _, _, _, .cons r t, s => .cons r (RepWs.append t s)
theorem RepWs.take : ∀ {ws : List W} {vs : List V} (n : Nat), RepWs K H ws vs → RepWs K H (ws.take n) (vs.take n)
  | _, _, 0, _ => by simp; exact .nil
  | _, _, _ + 1, .nil => .nil
  | _, _, n + 1, .cons r t => .cons r (RepWs.take n t)
theorem RepWs.drop : ∀ {ws : List W} {vs : List V} (n : Nat), RepWs K H ws vs → RepWs K H (ws.drop n) (vs.drop n)
  | _, _, 0, r => r
  | _, _, _ + 1, .nil => .nil
  | _, _, n + 1, .cons _ t => RepWs.drop n t
theorem RepWs.set {w : W} {v : V} (r : RepW K H w v) : ∀ {ws : List W} {vs : List V} (n : Nat), RepWs K H ws vs → RepWs K H (ws.set n w) (vs.set n v)
  | _, _, _, .nil => .nil
  | _, _, 0, .cons _ t => .cons r t
  | _, _, n + 1, .cons q t => .cons q (RepWs.set r n t)
theorem RepWs.eraseIdx : ∀ {ws : List W} {vs : List V} (n : Nat), RepWs K H ws vs → RepWs K H (ws.eraseIdx n) (vs.eraseIdx n)
  | _, _, _, .nil => .nil
  | _, _, 0, .cons _ t => t
  | _, _, n + 1, .cons q t => .cons q (RepWs.eraseIdx n t)
theorem RepWs.reverse : ∀ {ws : List W} {vs : List V}, RepWs K H ws vs → RepWs K H ws.reverse vs.reverse
  | _, _, .nil => .nil
  | _, _, .cons r t => by simp only [List.reverse_cons]; exact RepWs.append (RepWs.reverse t) (.cons r .nil)
theorem RepWs.dropLast {ws : List W} {vs : List V} (h : RepWs K H ws vs) : RepWs K H ws.dropLast vs.dropLast := by
  rw [List.dropLast_eq_take, List.dropLast_eq_take, h.length]; exact h.take _
theorem RepWs.ints : ∀ {ns : List Int} {vs : List V}, RepWs K H (ns.map W.int) vs → vs = ns.map V.int
  | [], _, .nil => rfl
  | _ :: _, _, .cons (.int i) t => by rw [RepWs.ints t]; rfl
theorem RepWs.ofInts : ∀ (ns : List Int), RepWs K H (ns.map W.int) (ns.map V.int)
  | [] => .nil
  | _ :: r => .cons (.int _) (RepWs.ofInts r)
theorem RepWs.bls : ∀ {bs : List Bool} {vs : List V}, RepWs K H (bs.map W.bl) vs → vs = bs.map V.bl
  | [], _, .nil => rfl
  | _ :: _, _, .cons (.bl i) t => by rw [RepWs.bls t]; rfl
end
def RepF {κ : Type} (K : PySem.W.Frag) (H : Hp) : List (κ × W) → List (κ × V) → Prop
  | [], [] => True
  | (f, w) :: r, (g, v) :: t => f = g ∧ RepW K H w v ∧ RepF K H r t
  | _, _ => False
def FzAt (H : Hp) (a : Addr) (u : HO) : Bool → Prop
  | false => H a = some u
  | true => ∃ o, H a = some (.frz o u)
def RepO (K : PySem.W.Frag) (H : Hp) : MO → Addr → Prop
  | .dk fz kvs, a => ∃ vs, FzAt H a (.dK vs) fz ∧ RepF K H kvs vs
  | .dt fz kvs, a => ∃ vs, FzAt H a (.dT vs) fz ∧ RepF K H kvs vs
  | .lst ws, a => ∃ vs, H a = some (.lst vs) ∧ RepWs K H ws vs
  | .ins C fs, a => ∃ dx vfs, H a = some (.ins C dx vfs) ∧ RepF K H fs vfs
def StOk (K : PySem.W.Frag) (S : Sto) (H : Hp) : Prop := ∀ a o, S a = some o → RepO K H o a
structure Gd (K : PySem.W.Frag) (σ : Envr) (S : Sto) (Z : L2.St) (H : Hp) : Prop where
  len : σ.length = Z.length
  sl : ∀ (i : Nat) (w : W), σ[i]? = some (some w) → ∃ v : V, Z[i]? = some (some v) ∧ RepW K H w v
  st : StOk K S H
structure Ext (S : Sto) (H : Hp) (S' : Sto) (H' : Hp) : Prop where
  fr : ∀ a o, H a = some o → S a = none → H' a = some o
  dm : ∀ a, S' a ≠ none → S a ≠ none ∨ H a = none
  th : ∀ a, H a ≠ none → H' a ≠ none
  fz : ∀ a o u, H a = some (.frz o u) → H' a = some (.frz o u)
theorem upd_th {H : Hp} {p a : Addr} {o : HO} (h : H a ≠ none) : upd H p o a ≠ none := by
  unfold upd; split
  · exact fun z => by cases z
  · exact h
section
variable {K : PySem.W.Frag} {S S1 S2 S' : Sto} {H H1 H2 H' : Hp} {σ : Envr} {Z : L2.St}
theorem Ext.refl : Ext S H S H := ⟨fun _ _ e _ => e, fun _ w => .inl w, fun _ h => h, fun _ _ _ h => h⟩
theorem Ext.trans (a : Ext S H S1 H1) (b : Ext S1 H1 S2 H2) : Ext S H S2 H2 where
  fr := fun c o e n => b.fr c o (a.fr c o e n) (by
    cases q : S1 c with
    | none => rfl
    | some m =>
      rcases a.dm c (by rw [q]; exact fun z => by cases z) with z | z
      · exact (z n).elim
      · rw [z] at e; cases e)
  dm := fun c w => by
    rcases b.dm c w with z | z
    · exact a.dm c z
    · cases q : S c with
      | some m => exact .inl fun z => by cases z
      | none =>
        refine .inr ?_
        cases e : H c with
        | none => rfl
        | some o => rw [a.fr c o e q] at z; cases z
  th := fun c h => b.th c (a.th c h)
  fz := fun c o u h => b.fz c o u (a.fz c o u h)
theorem Ext.sub (h : Sub S' S) : Ext S H S' H := ⟨fun _ _ e _ => e, fun a n => .inl (by
  cases q : S' a with
  | none => exact (n q).elim
  | some o => rw [h a o q]; exact fun z => by cases z), fun _ h => h, fun _ _ _ h => h⟩
theorem StOk.sub (g : StOk K S H) (h : Sub S' S) : StOk K S' H := fun a o e => g a o (h a o e)
def Knowable : HO → Prop
  | .lst _ => True
  | .ins _ _ _ => True
  | .dK _ => True
  | .dT _ => True
  | .frz _ (.dK _) => True
  | .frz _ (.dT _) => True
  | _ => False
theorem FzAt.there {H : Hp} {a : Addr} {u : HO} {b : Bool} (h : FzAt H a u b) : H a ≠ none := fun z => by
  cases b with
  | false => rw [show H a = some u from h] at z; cases z
  | true => obtain ⟨o, e⟩ := h; rw [e] at z; cases z
theorem StOk.unknown (g : StOk K S H) {a : Addr} {o : HO} (e : H a = some o) (h : ¬ Knowable o) : S a = none := by
  cases em : S a with
  | none => rfl
  | some m =>
    have q := g a m em
    cases m with
    | lst ws => obtain ⟨vs, e', _⟩ := q; rw [e] at e'; cases e'; exact (h trivial).elim
    | ins C fs => obtain ⟨dx, vfs, e', _⟩ := q; rw [e] at e'; cases e'; exact (h trivial).elim
    | dk fz kvs =>
      obtain ⟨vs, e', _⟩ := q
      cases fz with
      | false => rw [show H a = some (.dK vs) from e'] at e; cases e; exact (h trivial).elim
      | true => obtain ⟨o, e'⟩ := e'; rw [e] at e'; cases e'; exact (h trivial).elim
    | dt fz kvs =>
      obtain ⟨vs, e', _⟩ := q
      cases fz with
      | false => rw [show H a = some (.dT vs) from e'] at e; cases e; exact (h trivial).elim
      | true => obtain ⟨o, e'⟩ := e'; rw [e] at e'; cases e'; exact (h trivial).elim
theorem StOk.free (g : StOk K S H) {p : Addr} (hp : H p = none) : S p = none := by
  cases e : S p with
  | none => rfl
  | some o =>
    have q := g p o e
    cases o with
    | lst ws => obtain ⟨vs, e', _⟩ := q; rw [hp] at e'; cases e'
    | ins C fs => obtain ⟨dx, vs, e', _⟩ := q; rw [hp] at e'; cases e'
    | dk fz kvs => obtain ⟨vs, e', _⟩ := q; exact (e'.there hp).elim
    | dt fz kvs => obtain ⟨vs, e', _⟩ := q; exact (e'.there hp).elim
theorem Ext.stay (x : Ext S H S' H') (g : StOk K S H) : Stay K H H' := by
  have h0 : ∀ {a : Addr} {o : HO}, H a = some o → ¬ Knowable o → H' a = some o := fun e h => x.fr _ _ e (g.unknown e h)
  refine ⟨fun a vs h => ?_, fun a vs h => ?_⟩
  · exact h0 h fun z => z
  · rcases h with ⟨o, h⟩ | h
    · exact .inl ⟨o, h0 h fun z => z⟩
    · exact .inr h
theorem Ext.rep (x : Ext S H S' H') (g : StOk K S H) {w : W} {v : V} (r : RepW K H w v) : RepW K H' w v := r.mono (x.stay g)
theorem Ext.reps (x : Ext S H S' H') (g : StOk K S H) {ws : List W} {vs : List V} (r : RepWs K H ws vs) : RepWs K H' ws vs := r.mono (x.stay g)
theorem Gd.next (g : Gd K σ S Z H) (x : Ext S H S' H') (s : StOk K S' H') : Gd K σ S' Z H' :=
  ⟨g.len, fun i w e => let ⟨v, h, r⟩ := g.sl i w e; ⟨v, h, x.rep g.st r⟩, s⟩
theorem Gd.set (g : Gd K σ S Z H) {w : W} {v : V} (r : RepW K H w v) (i : Nat) : Gd K (σ.set i (some w)) S (Z.set i (some v)) H where
  len := by simp [g.len]
  sl := fun j u e => by
    rw [List.getElem?_set] at e ⊢
    by_cases h : i = j
    · subst h
      rw [if_pos rfl] at e ⊢
      by_cases hl : i < σ.length
      · rw [if_pos hl] at e
        rw [if_pos (g.len ▸ hl)]
        cases e
        exact ⟨v, rfl, r⟩
      · rw [if_neg hl] at e; cases e
    · rw [if_neg h] at e ⊢
      exact g.sl j u e
  st := g.st
theorem RepF.mono {κ : Type} (h : Stay K H H') : ∀ {fs : List (κ × W)} {vs : List (κ × V)}, RepF K H fs vs → RepF K H' fs vs
  | [], [], r => r
  | (_, _) :: _, (_, _) :: _, ⟨e, r, t⟩ => ⟨e, r.mono h, RepF.mono h t⟩
  | [], _ :: _, r => r.elim
  | _ :: _, [], r => r.elim
theorem RepO.keep (x : Ext S H S' H') (g : StOk K S H) {o : MO} {a : Addr} (r : RepO K H o a) (n : ∀ v, H a = some v → H' a = some v) : RepO K H' o a := by
  cases o with
  | lst ws => obtain ⟨vs, e, t⟩ := r; exact ⟨vs, n _ e, x.reps g t⟩
  | ins C fs => obtain ⟨dx, vs, e, t⟩ := r; exact ⟨dx, vs, n _ e, t.mono (x.stay g)⟩
  | dk fz kvs =>
    obtain ⟨vs, e, t⟩ := r
    refine ⟨vs, ?_, t.mono (x.stay g)⟩
    cases fz with
    | false => exact n _ e
    | true => obtain ⟨o, e⟩ := e; exact ⟨o, n _ e⟩
  | dt fz kvs =>
    obtain ⟨vs, e, t⟩ := r
    refine ⟨vs, ?_, t.mono (x.stay g)⟩
    cases fz with
    | false => exact n _ e
    | true => obtain ⟨o, e⟩ := e; exact ⟨o, n _ e⟩
theorem Ext.new {p : Addr} {o : HO} {m : MO} (hp : H p = none) : Ext S H (put S p m) (upd H p o) where
  fr := fun a u e _ => by
    have : a ≠ p := ne_of_none e hp
    rw [upd_ne this]; exact e
  dm := fun a n => by
    by_cases h : a = p
    · subst h; exact .inr hp
    · rw [put_ne h] at n; exact .inl n
  th := fun _ h => upd_th h
  fz := fun a _ _ e => by
    have : a ≠ p := ne_of_none e hp
    rw [upd_ne this]; exact e
theorem Ext.fresh {p : Addr} {o : HO} (hp : H p = none) : Ext S H S (upd H p o) where
  fr := fun a u e _ => by
    have : a ≠ p := ne_of_none e hp
    rw [upd_ne this]; exact e
  dm := fun a w => .inl w
  th := fun _ h => upd_th h
  fz := fun a _ _ e => by
    have : a ≠ p := ne_of_none e hp
    rw [upd_ne this]; exact e
theorem Ext.write {p : Addr} {o : HO} {m : MO} (w : S p ≠ none) (nf : ∀ d u, H p ≠ some (.frz d u)) : Ext S H (put S p m) (upd H p o) where
  fr := fun a u e n => by
    have : a ≠ p := fun z => w (z ▸ n)
    rw [upd_ne this]; exact e
  dm := fun a n => by
    by_cases h : a = p
    · subst h; exact .inl w
    · rw [put_ne h] at n; exact .inl n
  th := fun _ h => upd_th h
  fz := fun a d u e => by
    have : a ≠ p := fun z => nf d u (z ▸ e)
    rw [upd_ne this]; exact e
theorem StOk.nfL {p : Addr} {ws : List W} (g : StOk K S H) (h : S p = some (.lst ws)) : ∀ d u, H p ≠ some (.frz d u) := fun d u z => by
  obtain ⟨vs, e, _⟩ := g _ _ h; rw [e] at z; cases z
theorem StOk.nfI {p C : Addr} {ws : List (Str × W)} (g : StOk K S H) (h : S p = some (.ins C ws)) : ∀ d u, H p ≠ some (.frz d u) := fun d u z => by
  obtain ⟨dx, vs, e, _⟩ := g _ _ h; rw [e] at z; cases z
theorem StOk.nfK {p : Addr} {ws : List (Key × W)} (g : StOk K S H) (h : S p = some (.dk false ws)) : ∀ d u, H p ≠ some (.frz d u) := fun d u z => by
  obtain ⟨vs, e, _⟩ := g _ _ h; rw [show H p = some (.dK vs) from e] at z; cases z
theorem StOk.nfT {p : Addr} {ws : List (List Key × W)} (g : StOk K S H) (h : S p = some (.dt false ws)) : ∀ d u, H p ≠ some (.frz d u) := fun d u z => by
  obtain ⟨vs, e, _⟩ := g _ _ h; rw [show H p = some (.dT vs) from e] at z; cases z
theorem StOk.put_at {p : Addr} {m : MO} (g : StOk K S H) (x : Ext S H (put S p m) H') (n : ∀ a v, a ≠ p → H a = some v → H' a = some v) (r : RepO K H' m p) : StOk K (put S p m) H' := fun a o e => by
  by_cases h : a = p
  · subst h; rw [put_same] at e; cases e; exact r
  · rw [put_ne h] at e; exact RepO.keep x g (g a o e) fun v q => n a v h q
theorem StOk.same (g : StOk K S H) (x : Ext S H S H') (n : ∀ a v, H a = some v → H' a = some v) : StOk K S H' := fun a o e => RepO.keep x g (g a o e) (n a)
theorem StOk.fresh {p : Addr} {o : HO} (g : StOk K S H) (hp : H p = none) : StOk K S (upd H p o) := g.same (Ext.fresh hp) fun a v e => by rw [upd_ne (ne_of_none e hp)]; exact e
theorem StOk.setLst {p : Addr} {ws ws0 : List W} {vs : List V} (g : StOk K S H) (h : S p = some (.lst ws0)) (r : RepWs K H ws vs) : StOk K (put S p (.lst ws)) (upd H p (.lst vs)) := by
  have x : Ext S H (put S p (.lst ws)) (upd H p (.lst vs)) := Ext.write (by rw [h]; exact fun z => by cases z) (g.nfL h)
  exact g.put_at x (fun a v h e => by rw [upd_ne h]; exact e) ⟨vs, upd_same, x.reps g r⟩
theorem Ext.free (x : Ext S H S' H') {p : Addr} (h : H' p = none) : H p = none := by
  cases e : H p with
  | none => rfl
  | some o => exact (x.th p (by rw [e]; exact fun z => by cases z) h).elim
theorem Ext.mat {p : Addr} {m : MO} (x : Ext S H S' H') (hp : H p = none) : Ext S H (put S' p m) H' :=
  ⟨x.fr, fun a n => by
    by_cases h : a = p
    · subst h; exact .inr hp
    · rw [put_ne h] at n; exact x.dm a n, x.th, x.fz⟩
theorem StOk.mat {p : Addr} {m : MO} (g : StOk K S H) (r : RepO K H m p) : StOk K (put S p m) H := fun a o e => by
  by_cases h : a = p
  · subst h; rw [put_same] at e; cases e; exact r
  · rw [put_ne h] at e; exact g a o e
end
abbrev WQ := W → Sto → Prop
abbrev XQ := Addr → Sto → Prop
abbrev MSp := List W → Sto → WQ → XQ → Prop
abbrev noX : XQ := fun _ _ => False
structure Gs where
  fn : Nat → MSp
  cl : Nat → Addr
  ex : List Nat := []
  hx : Option (Addr × Nat) := none
instance : CoeFun Gs (fun _ => Nat → MSp) := ⟨Gs.fn⟩
inductive LK where
  | ls | ro | tu
abbrev LQ := List W → LK → (Sto → Prop) → Sto → Prop
inductive BOp where
  | add | sub | mul | fdiv | mod | pow
inductive COp where
  | lt | le | gt | ge | eq | ne
mutual
inductive IE where
  | var (i : Nat)
  | cst (w : W)
  | bin (op : BOp) (a b : IE)
  | neg (a : IE)
  | cmp (op : COp) (a b : IE)
  | chn (o p : COp) (a b c : IE)
  | isN (k : Bool) (a : IE)
  | isB (k : Bool) (a : IE) (b : Bool)
  | inn (k : Bool) (a b : IE)
  | and (a b : IE)
  | or (a b : IE)
  | not (a : IE)
  | ite (c a b : IE)
  | tup (es : IEs)
  | idx (a i : IE)
  | slc (a : IE) (lo hi : IO)
  | call (f : Nat) (es : IEs)
  | isa (a : IE) (t : String)
  | mx (a b : IE)
  | mn (a b : IE)
  | len (a : IE)
  | mat (t : IT)
  | tupl (l : IL)
  | sum (l : IL)
  | any (l : IL)
  | all (l : IL)
  | max1 (l : IL)
  | min1 (l : IL)
  | idl (l : IL) (i : IE)
  | eql (k : Bool) (a b : IL)
  | app (o e : IE)
  | ext (o : IE) (l : IL)
  | pop0 (o : IE)
  | pop1 (o i : IE)
  | fld (c : Nat) (o : IE) (f : Str)
  | meth (f c : Nat) (m : Str) (o : IE) (es : IEs)
  | make (f c : Nat) (es : IEs)
  | glb (x : Str) (k : Key)
  | isx (o : IE) (c : Option Nat)
  | isxT (o : IE) (cs : List Nat)
  | join (s : IE) (l : IL)
  | strI (a : IE)
  | intE (a : IE)
  | absI (a : IE)
  | ins (o i x : IE)
  | rem (o x : IE)
  | ixo (o x : IE)
  | revm (o : IE)
  | clr (o : IE)
  | dnew (t : Bool)
  | dget (d k x : IE)
  | dpop (d k : IE)
  | deq (k : Bool) (a b : IE)
  | ddsp (ks : List Key) (es : IEs)
  | setd (d k e : IE)
inductive IEs where
  | nil
  | cons (e : IE) (es : IEs)
inductive IO where
  | none
  | some (e : IE)
inductive IT where
  | dsp (es : IEs)
  | cat (a b : IL)
  | slc (a : IL) (lo hi : IO)
  | rev (a : IL)
  | lst (a : IL)
  | srt (a : IL)
  | sset (a : IL)
  | comp (e : IE) (g : IG) (it : II) (own : List Nat)
  | rep (a : IL) (n : IE)
  | compif (e c : IE) (g : IG) (it : II) (own : List Nat)
  | srtd (d : IE)
  | srtD (a : IL)
  | lck (t : IT)
inductive IL where
  | t (t : IT)
  | of (e : IE)
inductive IG where
  | nm (i : Nat)
  | tup (gs : IGs)
  | sub (o i : IE)
  | slc (o lo hi : IE)
inductive IGs where
  | nil
  | cons (g : IG) (gs : IGs)
inductive II where
  | lst (l : IL)
  | rng (e : IE)
  | rng2 (a b : IE)
  | zip (a b : IL)
  | enm (a : IL)
  | rngd (a b c : IE)
  | keys (e : IE)
end
mutual
inductive IS where
  | set (i : Nat) (e : IE)
  | asg (g : IG) (e : IE)
  | par (i j : Nat) (a b : IE)
  | aug (i : Nat) (op : BOp) (e : IE)
  | exp (e : IE)
  | ret (e : IE)
  | retN
  | pas
  | brk
  | cnt
  | iff (c : IE) (a b : ISs)
  | whl (c : IE) (b : ISs)
  | for (g : IG) (it : II) (b : ISs)
  | rse (c : Nat)
  | sfl (c : Nat) (o : IE) (f : Str) (e : IE)
  | tryO (b : ISs) (c : Nat) (s : ISs)
  | tryA (b : ISs) (c i : Nat) (s : ISs)
  | ford (g : IG) (i : Nat) (b : ISs)
inductive ISs where
  | nil
  | cons (s : IS) (r : ISs)
end
def getv (σ : Envr) (i : Nat) : Option W := match σ[i]? with
  | some (some w) => some w
  | _ => none
def wipeW (σ : Envr) : List Nat → Envr
  | [] => σ
  | v :: vs => (wipeW σ vs).set v none
def mulOk (i j : Int) : Prop := i.natAbs.log2 + j.natAbs.log2 < 100000000
def divOk (j : Int) : Prop := 0 < j ∧ j.natAbs.log2 < 9000
def powOk (i j : Int) : Prop := 0 ≤ j ∧ j ≤ 1000000 ∧ i.natAbs < 2 ^ 64
def binW (op : BOp) (x y : W) (Q : W → Prop) : Prop := match op, x, y with
  | .add, .int i, .int j => Q (.int (i + j))
  | .add, .str x, .str y => x.length + y.length ≤ sizeLine ∧ Q (.str (x ++ y))
  | .add, .tup x, .tup y => x.length + y.length ≤ sizeLine ∧ Q (.tup (x ++ y))
  | .sub, .int i, .int j => Q (.int (i - j))
  | .mul, .int i, .int j => mulOk i j ∧ Q (.int (i * j))
  | .mul, .str x, .int n => (0 ≤ n ∧ n ≤ 1000000) ∧ x.length * n.toNat ≤ 1000000 ∧ Q (.str (Txt.mul x n))
  | .fdiv, .int i, .int j => divOk j ∧ Q (.int (i / j))
  | .mod, .int i, .int j => 0 < j ∧ Q (.int (i % j))
  | .pow, .int i, .int j => powOk i j ∧ Q (.int (i ^ j.toNat))
  | _, _, _ => False
mutual
def W.dat : W → PyData
  | .non => .none
  | .bl b => .bool b
  | .int i => .int i
  | .str x => .str x
  | .tup ws => .tuple (W.dats ws)
  | .rol ws => .list (W.dats ws)
  | .ref _ => .none
  | .ty _ => .none
def W.dats : List W → List PyData
  | [] => []
  | w :: ws => W.dat w :: W.dats ws
end
mutual
def W.pure : W → Bool
  | .non => true
  | .bl _ => true
  | .int _ => true
  | .str _ => true
  | .tup ws => W.pures ws
  | .rol ws => W.pures ws
  | .ref _ => false
  | .ty _ => false
def W.pures : List W → Bool
  | [] => true
  | w :: ws => W.pure w && W.pures ws
end
def W.eqOk (w : W) : Prop := w.pure = true ∧ SeqAt.shaped w.dat = true
def W.eqsOk (ws : List W) : Prop := W.pures ws = true ∧ SeqAt.shaped (.list (W.dats ws)) = true
def W.eqv (a b : W) : Bool := PyData.eqv a.dat b.dat
def W.eqvs (a b : List W) : Bool := PyData.eqvAll (W.dats a) (W.dats b)
def cmpW (op : COp) (x y : W) (Q : Bool → Prop) : Prop := match op with
  | .eq => x.eqOk ∧ y.eqOk ∧ Q (x.eqv y)
  | .ne => x.eqOk ∧ y.eqOk ∧ Q (!x.eqv y)
  | .lt => match x, y with
    | .int i, .int j => Q (decide (i < j))
    | _, _ => False
  | .le => match x, y with
    | .int i, .int j => Q (decide (i ≤ j))
    | _, _ => False
  | .gt => match x, y with
    | .int i, .int j => Q (decide (j < i))
    | _, _ => False
  | .ge => match x, y with
    | .int i, .int j => Q (decide (j ≤ i))
    | _, _ => False
def isNon : W → Bool
  | .non => true
  | _ => false
def W.flat : W → Bool
  | .non => true
  | .bl _ => true
  | .int _ => true
  | .str _ => true
  | _ => false
def flEq : W → W → Bool
  | .non, .non => true
  | .bl a, .bl b => a == b
  | .bl a, .int b => (if a then 1 else 0) == b
  | .int a, .bl b => a == (if b then 1 else 0)
  | .int a, .int b => a == b
  | .str a, .str b => a == b
  | _, _ => false
def keyW : W → Option Key
  | .int i => some (.inl i)
  | .str x => some (.inr x)
  | _ => none
def keysW : List W → Option (List Key)
  | [] => some []
  | w :: r => match keyW w, keysW r with
    | some k, some l => some (k :: l)
    | _, _ => none
def tkeyW : W → Option (List Key)
  | .tup ws => keysW ws
  | _ => none
section
variable {κ : Type} [DecidableEq κ]
def valD (kvs : List (κ × W)) (k : κ) : Option W := (kvs.find? fun kv => decide (kv.1 = k)).map (·.2)
def putD (kvs : List (κ × W)) (k : κ) (v : W) : List (κ × W) :=
  if (kvs.any fun kv => decide (kv.1 = k)) = true then kvs.map (fun kv => if kv.1 = k then (kv.1, v) else kv) else kvs ++ [(k, v)]
def dropD (kvs : List (κ × W)) (k : κ) : List (κ × W) := kvs.filter fun kv => decide (kv.1 ≠ k)
end
def hasD {κ : Type} [DecidableEq κ] (o : Option κ) (kvs : List (κ × W)) (Q : Bool → Prop) : Prop := match o with
  | some k => Q (valD kvs k).isSome
  | none => False
def inWs (x : W) (ws : List W) (Q : Bool → Prop) : Prop := x.flat = true ∧ ws.all W.flat = true ∧ Q (ws.any fun z => flEq z x)
def inW (x y : W) (Q : Bool → Prop) (S : Sto) : Prop := match y with
  | .tup ws => inWs x ws Q
  | .rol ws => inWs x ws Q
  | .ref a => match S a with
    | some (.lst ws) => inWs x ws Q
    | some (.dk _ kvs) => hasD (keyW x) kvs Q
    | some (.dt _ kvs) => hasD (tkeyW x) kvs Q
    | _ => False
  | .str z => match x with
    | .str c => ∃ d, c = ⟨#[d]⟩ ∧ Q (decide (d ∈ z.cps.toList))
    | _ => False
  | _ => False
def idxW (x y : W) (S : Sto) : Option W := match x, y with
  | .tup ws, .int i => atI ws i
  | .rol ws, .int i => atI ws i
  | .ref a, y => match S a with
    | some (.lst ws) => (match y with
      | .int i => atI ws i
      | _ => none)
    | some (.dk _ kvs) => (keyW y).bind (valD kvs)
    | some (.dt _ kvs) => (tkeyW y).bind (valD kvs)
    | _ => none
  | .str x, .int i => if x.length ≤ sizeLine then (atI x.cps.toList i).map fun c => .str ⟨#[c]⟩ else none
  | _, _ => none
def lenW (x : W) (S : Sto) : Option Nat := match x with
  | .tup ws => some ws.length
  | .rol ws => some ws.length
  | .str x => if x.length ≤ sizeLine then some x.length else none
  | .ref a => match S a with
    | some (.lst ws) => some ws.length
    | some (.dk false kvs) => some kvs.length
    | some (.dt false kvs) => some kvs.length
    | _ => none
  | _ => none
def cutW {α : Type} (xs : List α) (lo hi : Option Int) : List α := (xs.drop (HT.sIx xs.length 0 lo)).take (HT.sIx xs.length xs.length hi - HT.sIx xs.length 0 lo)
def tyW (w : W) (S : Sto) : Option String := match w with
  | .non => some "NoneType"
  | .bl _ => some "bool"
  | .int _ => some "int"
  | .str _ => some "str"
  | .tup _ => some "tuple"
  | .rol _ => some "list"
  | .ref a => match S a with
    | some (.lst _) => some "list"
    | some (.dk false _) => some "dict"
    | some (.dt false _) => some "dict"
    | _ => none
  | .ty _ => none
def isaW (x : W) (t : String) (S : Sto) : Option Bool := (tyW x S).map fun u => u == t || (u == "bool" && t == "int")
def setW (x y w : W) (S : Sto) (Q : Sto → Prop) : Prop := match x with
  | .ref a => (match S a with
    | some (.lst ws) => (match y with
      | .int k => (match ixN ws.length k with
        | some j => Q (put S a (.lst (ws.set j w)))
        | none => False)
      | _ => False)
    | some (.dk false kvs) => (match keyW y with
      | some k => kvs.length < sizeLine ∧ Q (put S a (.dk false (putD kvs k w)))
      | none => False)
    | some (.dt false kvs) => (match tkeyW y with
      | some k => kvs.length < sizeLine ∧ Q (put S a (.dt false (putD kvs k w)))
      | none => False)
    | _ => False)
  | _ => False
def isLst (x : W) (S : Sto) : Prop := match x with
  | .ref a => (match S a with
    | some (.lst _) => True
    | _ => False)
  | _ => False
def IGs.len : IGs → Nat
  | .nil => 0
  | .cons _ gs => gs.len + 1
def intsOf : List W → Option (List Int)
  | [] => some []
  | .int i :: r => (intsOf r).map (i :: ·)
  | _ :: _ => none
def blsOf : List W → Option (List Bool)
  | [] => some []
  | .bl i :: r => (blsOf r).map (i :: ·)
  | _ :: _ => none
def keyOf2 : W → Option (Int × Int)
  | .tup [.int i, .int j] => some (i, j)
  | _ => none
def asBl (w : W) (Q : Bool → Prop) : Prop := match w with
  | .bl b => Q b
  | _ => False
def rngOk (i : Int) : Prop := -(2 ^ 62) ≤ i ∧ i < 2 ^ 62
def rngOk2 (i : Int) : Prop := -(10 ^ 90) ≤ i ∧ i < 10 ^ 90
def rngW (lo : Int) (n : Nat) : List W := (List.range n).map fun (k : Nat) => .int (lo + k)
def zipW (xs ys : List W) : List W := xs.zipWith (fun x y => .tup [x, y]) ys
def enmW (xs : List W) : List W := (List.range xs.length).zipWith (fun (k : Nat) x => .tup [.int k, x]) xs
def srtW (ws : List W) (Q : List W → Prop) : Prop :=
  match intsOf ws with
  | some ns => ∀ ns' : List Int, ns'.Perm ns → ns'.Pairwise (· ≤ ·) → Q (ns'.map W.int)
  | none => (∀ w ∈ ws, ∃ k, keyOf2 w = some k) ∧ ∀ ks : List (Int × Int), ks.Perm (ws.filterMap keyOf2) → ks.Pairwise (fun p q => p.1 < q.1 ∨ p.1 = q.1 ∧ p.2 ≤ q.2) → Q (ks.map fun p => .tup [.int p.1, .int p.2])
def sSetW (ws : List W) (Q : List W → Prop) : Prop := match intsOf ws with
  | some ns => ns.length ≤ 4000 ∧ ∀ ns' : List Int, ns'.Pairwise (· < ·) → (∀ k, k ∈ ns' ↔ k ∈ ns) → Q (ns'.map W.int)
  | none => False
def augW (op : BOp) (x y : W) (Q : W → Prop) : Prop := match op, x, y with
  | .add, .int i, .int j => Q (.int (i + j))
  | .add, .str x, .str y => x.length + y.length ≤ sizeLine ∧ Q (.str (x ++ y))
  | .sub, .int i, .int j => Q (.int (i - j))
  | _, _, _ => False
def isIns (x : W) (C : Addr) (m : Str) (S : Sto) : Prop := match x with
  | .ref a => (match S a with
    | some (.ins D fs) => D = C ∧ fs.lookup m = none
    | _ => False)
  | _ => False
def fldW (x : W) (C : Addr) (f : Str) (S : Sto) (Q : W → Prop) : Prop := match x with
  | .ref a => (match S a with
    | some (.ins D fs) => D = C ∧ (match fs.lookup f with
      | some w => Q w
      | none => False)
    | _ => False)
  | _ => False
def putFW (f : Str) (w : W) : List (Str × W) → List (Str × W)
  | [] => [(f, w)]
  | (g, u) :: r => if g = f then (g, w) :: r else (g, u) :: putFW f w r
def setF (x : W) (C : Addr) (f : Str) (w : W) (S : Sto) (Q : Sto → Prop) : Prop := match x with
  | .ref a => (match S a with
    | some (.ins D fs) => D = C ∧ fs.length < 1000 ∧ Q (put S a (.ins D (putFW f w fs)))
    | _ => False)
  | _ => False
def subX (n c : Nat) : Bool := c == 0 || n == c
def subXo (n : Nat) : Option Nat → Bool
  | none => true
  | some c => subX n c
def kW : Key → W
  | .inl i => .int i
  | .inr x => .str x
def strsOf : List W → Option (List Str)
  | [] => some []
  | .str x :: r => (strsOf r).map (x :: ·)
  | _ :: _ => none
def joinLen (s : Str) (ys : List Str) : Nat := (ys.map fun y => y.length).sum + ys.length * s.length
def joinW (x : W) (ws : List W) (Q : W → Prop) : Prop := match x, strsOf ws with
  | .str s, some ys => joinLen s ys ≤ 16777216 ∧ Q (.str (Txt.join s ys))
  | _, _ => False
def strW (x : W) (Q : W → Prop) : Prop := match x with
  | .int i => i.natAbs.log2 < 1920 ∧ Q (.str (toString i))
  | .str s => Q (.str s)
  | _ => False
def intW (x : W) (Q : W → Prop) : Prop := match x with
  | .int i => Q (.int i)
  | .bl k => Q (.int (if k then 1 else 0))
  | _ => False
def absW (x : W) (Q : W → Prop) : Prop := match x with
  | .int i => Q (.int (if i < 0 then -i else i))
  | _ => False
def lstW (x : W) (S : Sto) (Q : Addr → List W → Prop) : Prop := match x with
  | .ref a => (match S a with
    | some (.lst ws) => Q a ws
    | _ => False)
  | _ => False
def dkW (x : W) (S : Sto) (Q : Addr → List (Key × W) → Prop) : Prop := match x with
  | .ref a => (match S a with
    | some (.dk false kvs) => Q a kvs
    | _ => False)
  | _ => False
def dgetW (x y z : W) (S : Sto) (Q : W → Prop) : Prop := match x with
  | .ref a => (match S a with
    | some (.dk _ kvs) => (match keyW y with
      | some k => Q ((valD kvs k).getD z)
      | none => False)
    | some (.dt _ kvs) => (match tkeyW y with
      | some k => Q ((valD kvs k).getD z)
      | none => False)
    | _ => False)
  | _ => False
def ixI (ns : List Int) (k : Int) (Q : Nat → Prop) : Prop := ∃ j, ns[j]? = some k ∧ (∀ m : Nat, m < j → ns[m]? ≠ some k) ∧ Q j
def remW (x y : W) (S : Sto) (Q : Sto → Prop) : Prop := lstW x S fun a ws => match intsOf ws, y with
  | some ns, .int k => ixI ns k fun j => Q (put S a (.lst ((ns.eraseIdx j).map W.int)))
  | _, _ => False
def ixoW (x y : W) (S : Sto) (Q : W → Prop) : Prop := lstW x S fun _ ws => match intsOf ws, y with
  | some ns, .int k => ixI ns k fun j => Q (.int j)
  | _, _ => False
def resL (f : W → Option PyData) : List W → Option (List PyData)
  | [] => some []
  | w :: r => match f w, resL f r with
    | some d, some ds => some (d :: ds)
    | _, _ => none
def resW (S : Sto) : Nat → W → Option PyData
  | 0, _ => none
  | n + 1, w => match w with
    | .non => some .none
    | .bl b => some (.bool b)
    | .int i => some (.int i)
    | .str x => some (.str x)
    | .tup ws => (resL (resW S n) ws).map .tuple
    | .rol ws => (resL (resW S n) ws).map .list
    | .ref a => (match S a with
      | some (.lst ws) => (resL (resW S n) ws).map .list
      | _ => none)
    | .ty _ => none
def deqW (x y : W) (S : Sto) (Q : Bool → Prop) : Prop := ∃ d d', resW S 8 x = some d ∧ resW S 8 y = some d' ∧ SeqAt.shaped d = true ∧ SeqAt.shaped d' = true ∧ Q (PyData.eqv d d')
def srtDW (ws : List W) (S : Sto) (Q : List W → Prop) : Prop := ∃ ds, resL (resW S 8) ws = some ds ∧ PySem.W.AllAlike ds ∧ PySem.W.Sortable ds ∧ Q (((ws.zip ds).mergeSort (PySem.W.dataLe false (·.2))).map (·.1))
def mkD (ks : List Key) (ws : List W) : List (Key × W) := (ks.zip ws).foldl (fun acc kv => putD acc kv.1 kv.2) []
def setdW (x y z : W) (S : Sto) (Q : W → Sto → Prop) : Prop := match x with
  | .ref a => (match S a with
    | some (.dk false kvs) => (match keyW y with
      | some k => kvs.length < sizeLine ∧ (match valD kvs k with
        | some w => Q w S
        | none => Q z (put S a (.dk false (putD kvs k z))))
      | none => False)
    | _ => False)
  | _ => False
def srtdW (x : W) (S : Sto) (Q : List W → Prop) : Prop := match x with
  | .ref a => (match S a with
    | some (.dk false kvs) => ∃ ks : List Int, kvs.map (·.1) = ks.map Sum.inl ∧ ks.length < 64 ∧ ∀ ys : List Int, ys.Perm ks → ys.Pairwise (· ≤ ·) → Q (ys.map W.int)
    | _ => False)
  | _ => False
def slsW (x i j w : W) (S : Sto) (Q : Sto → Prop) : Prop := match x, i, j, w with
  | .ref a, .int i, .int j, .ref p => p ≠ a ∧ (match S a with
    | some (.lst xs) => (match S p with
      | some (.lst ys) => 0 ≤ i ∧ i ≤ j ∧ j ≤ xs.length ∧ xs.length + ys.length ≤ sizeLine ∧ Q (put S a (.lst (xs.take i.toNat ++ ys ++ xs.drop j.toNat)))
      | _ => False)
    | _ => False)
  | _, _, _, _ => False
def rngdW (hi : Int) (n : Nat) : List W := (List.range n).map fun (k : Nat) => .int (hi + k * -1)
def keysOf : MO → Option (List W)
  | .dk false kvs => some (kvs.map fun kv => kW kv.1)
  | .dt false kvs => some (kvs.map fun kv => .tup (kv.1.map kW))
  | _ => none
def del (S : Sto) (a : Addr) : Sto := fun b => if b = a then none else S b
structure MEnds where
  nx : Envr → Sto → Prop
  rt : WQ
  bk : Envr → Sto → Prop
  ct : Envr → Sto → Prop
  ex : Envr → XQ
section
variable (G : Gs)
mutual
def wpE : IE → Envr → Sto → WQ → XQ → Prop
  | .var i => fun σ S Q _ => match getv σ i with
    | some w => Q w S
    | none => False
  | .cst w => fun _ S Q _ => Q w S
  | .bin op a b => fun σ S Q X => wpE a σ S (fun x S1 => wpE b σ S1 (fun y S2 => binW op x y fun z => Q z S2) X) X
  | .neg a => fun σ S Q X => wpE a σ S (fun x S1 => match x with
    | .int i => Q (.int (-i)) S1
    | _ => False) X
  | .cmp op a b => fun σ S Q X => wpE a σ S (fun x S1 => wpE b σ S1 (fun y S2 => cmpW op x y fun z => Q (.bl z) S2) X) X
  | .chn o p a b c => fun σ S Q X => wpE a σ S (fun x S1 => wpE b σ S1 (fun y S2 => cmpW o x y fun z =>
      if z = true then wpE c σ S2 (fun u S3 => cmpW p y u fun z => Q (.bl z) S3) X else Q (.bl false) S2) X) X
  | .isN k a => fun σ S Q X => wpE a σ S (fun x S1 => Q (.bl (isNon x == k)) S1) X
  | .isB k a b => fun σ S Q X => wpE a σ S (fun x S1 => asBl x fun c => Q (.bl ((c == b) == k)) S1) X
  | .inn k a b => fun σ S Q X => wpE a σ S (fun x S1 => wpE b σ S1 (fun y S2 => inW x y (fun z => Q (.bl (z == k)) S2) S2) X) X
  | .and a b => fun σ S Q X => wpE a σ S (fun x S1 => asBl x fun c => if c = true then wpE b σ S1 Q X else Q (.bl false) S1) X
  | .or a b => fun σ S Q X => wpE a σ S (fun x S1 => asBl x fun c => if c = true then Q (.bl true) S1 else wpE b σ S1 Q X) X
  | .not a => fun σ S Q X => wpE a σ S (fun x S1 => asBl x fun c => Q (.bl (!c)) S1) X
  | .ite c a b => fun σ S Q X => wpE c σ S (fun x S1 => asBl x fun k => if k = true then wpE a σ S1 Q X else wpE b σ S1 Q X) X
  | .tup es => fun σ S Q X => wpEs es σ S (fun ws S1 => ws.length ≤ sizeLine ∧ Q (.tup ws) S1) X
  | .idx a i => fun σ S Q X => wpE a σ S (fun x S1 => wpE i σ S1 (fun y S2 => match idxW x y S2 with
    | some w => Q w S2
    | none => False) X) X
  | .slc a lo hi => fun σ S Q X => wpE a σ S (fun x S1 => wpO lo σ S1 (fun l S2 => wpO hi σ S2 (fun h S3 => match x with
    | .tup ws => Q (.tup (cutW ws l h)) S3
    | _ => False) X) X) X
  | .call f es => fun σ S Q X => wpEs es σ S (fun ws S1 => G f ws S1 Q X) X
  | .isa a t => fun σ S Q X => wpE a σ S (fun x S1 => match isaW x t S1 with
    | some b => Q (.bl b) S1
    | none => False) X
  | .mx a b => fun σ S Q X => wpE a σ S (fun x S1 => wpE b σ S1 (fun y S2 => match x, y with
    | .int i, .int j => Q (.int (max i j)) S2
    | _, _ => False) X) X
  | .mn a b => fun σ S Q X => wpE a σ S (fun x S1 => wpE b σ S1 (fun y S2 => match x, y with
    | .int i, .int j => Q (.int (min i j)) S2
    | _, _ => False) X) X
  | .len a => fun σ S Q X => wpE a σ S (fun x S1 => match lenW x S1 with
    | some n => Q (.int n) S1
    | none => False) X
  | .mat t => fun σ S Q X => wpT t σ S (fun ws S1 => ∀ p, S1 p = none → Q (.ref p) (put S1 p (.lst ws))) X
  | .tupl l => fun σ S Q X => wpL l σ S (fun ws _ _ S1 => Q (.tup ws) S1) X
  | .sum l => fun σ S Q X => wpL l σ S (fun ws k _ S1 => k ≠ .tu ∧ match intsOf ws with
    | some ns => Q (.int ns.sum) S1
    | none => False) X
  | .any l => fun σ S Q X => wpL l σ S (fun ws k _ S1 => k ≠ .tu ∧ match blsOf ws with
    | some bs => Q (.bl (bs.any id)) S1
    | none => False) X
  | .all l => fun σ S Q X => wpL l σ S (fun ws k _ S1 => k ≠ .tu ∧ match blsOf ws with
    | some bs => Q (.bl (bs.all id)) S1
    | none => False) X
  | .max1 l => fun σ S Q X => wpL l σ S (fun ws k _ S1 => k ≠ .tu ∧ match intsOf ws with
    | some ns => ns ≠ [] ∧ ∀ m, m ∈ ns → (∀ y ∈ ns, y ≤ m) → Q (.int m) S1
    | none => False) X
  | .min1 l => fun σ S Q X => wpL l σ S (fun ws k _ S1 => k ≠ .tu ∧ match intsOf ws with
    | some ns => ns ≠ [] ∧ ∀ m, m ∈ ns → (∀ y ∈ ns, m ≤ y) → Q (.int m) S1
    | none => False) X
  | .idl l i => fun σ S Q X => wpL l σ S (fun ws _ st S1 => wpE i σ S1 (fun y S2 => st S2 ∧ match y with
    | .int k => (match atI ws k with
      | some w => Q w S2
      | none => False)
    | _ => False) X) X
  | .eql k a b => fun σ S Q X => wpL a σ S (fun xs k1 st S1 => wpL b σ S1 (fun ys k2 _ S2 => k1 ≠ .tu ∧ k2 ≠ .tu ∧ st S2 ∧ W.eqsOk xs ∧ W.eqsOk ys ∧ Q (.bl (W.eqvs xs ys == k)) S2) X) X
  | .app o e => fun σ S Q X => wpE o σ S (fun x S1 => isLst x S1 ∧ wpE e σ S1 (fun y S2 => match x with
    | .ref a => (match S2 a with
      | some (.lst ws) => ws.length < sizeLine ∧ Q .non (put S2 a (.lst (ws ++ [y])))
      | _ => False)
    | _ => False) X) X
  | .ext o l => fun σ S Q X => wpE o σ S (fun x S1 => isLst x S1 ∧ wpL l σ S1 (fun ys k _ S2 => k = .ls ∧ match x with
    | .ref a => (match S2 a with
      | some (.lst ws) => ws.length + ys.length ≤ sizeLine ∧ Q .non (put S2 a (.lst (ws ++ ys)))
      | _ => False)
    | _ => False) X) X
  | .pop0 o => fun σ S Q X => wpE o σ S (fun x S1 => isLst x S1 ∧ match x with
    | .ref a => (match S1 a with
      | some (.lst ws) => (match ws[ws.length - 1]? with
        | some w => Q w (put S1 a (.lst ws.dropLast))
        | none => False)
      | _ => False)
    | _ => False) X
  | .pop1 o i => fun σ S Q X => wpE o σ S (fun x S1 => isLst x S1 ∧ wpE i σ S1 (fun y S2 => match x, y with
    | .ref a, .int j => (match S2 a with
      | some (.lst ws) => -(2 ^ 63) ≤ j ∧ j < 2 ^ 63 ∧ (match ixN ws.length j with
        | some k => (match ws[k]? with
          | some w => Q w (put S2 a (.lst (ws.eraseIdx k)))
          | none => False)
        | none => False)
      | _ => False)
    | _, _ => False) X) X
  | .fld c o f => fun σ S Q X => wpE o σ S (fun x S1 => fldW x (G.cl c) f S1 fun w => Q w S1) X
  | .meth f c m o es => fun σ S Q X => wpE o σ S (fun x S1 => isIns x (G.cl c) m S1 ∧ wpEs es σ S1 (fun ws S2 => G f (x :: ws) S2 Q X) X) X
  | .make f c es => fun σ S Q X => wpEs es σ S (fun ws S1 => ∀ p, S1 p = none → G f (.ref p :: ws) (put S1 p (.ins (G.cl c) [])) (fun w S2 => w = .non ∧ Q (.ref p) S2) X) X
  | .glb _ k => fun _ S Q _ => Q (kW k) S
  | .isx o c => fun σ S Q X => wpE o σ S (fun x S1 => match G.hx with
    | some (a, n) => x = .ref a ∧ Q (.bl (subXo n c)) S1
    | none => False) X
  | .isxT o cs => fun σ S Q X => wpE o σ S (fun x S1 => match G.hx with
    | some (a, n) => x = .ref a ∧ Q (.bl (cs.any fun c => subX n c)) S1
    | none => False) X
  | .join s l => fun σ S Q X => wpE s σ S (fun x S1 => (∃ z, x = .str z) ∧ wpL l σ S1 (fun ws _ _ S2 => joinW x ws fun w => Q w S2) X) X
  | .strI a => fun σ S Q X => wpE a σ S (fun x S1 => strW x fun w => Q w S1) X
  | .intE a => fun σ S Q X => wpE a σ S (fun x S1 => intW x fun w => Q w S1) X
  | .absI a => fun σ S Q X => wpE a σ S (fun x S1 => absW x fun w => Q w S1) X
  | .ins o i e => fun σ S Q X => wpE o σ S (fun x S1 => isLst x S1 ∧ wpE i σ S1 (fun y S2 => wpE e σ S2 (fun z S3 => lstW x S3 fun a ws => match y with
    | .int k => ws.length < sizeLine ∧ 0 ≤ k ∧ k < 2 ^ 63 ∧ Q .non (put S3 a (.lst (ws.take k.toNat ++ [z] ++ ws.drop k.toNat)))
    | _ => False) X) X) X
  | .rem o e => fun σ S Q X => wpE o σ S (fun x S1 => isLst x S1 ∧ wpE e σ S1 (fun y S2 => remW x y S2 fun S3 => Q .non S3) X) X
  | .ixo o e => fun σ S Q X => wpE o σ S (fun x S1 => isLst x S1 ∧ wpE e σ S1 (fun y S2 => ixoW x y S2 fun w => Q w S2) X) X
  | .revm o => fun σ S Q X => wpE o σ S (fun x S1 => lstW x S1 fun a ws => Q .non (put S1 a (.lst ws.reverse))) X
  | .clr o => fun σ S Q X => wpE o σ S (fun x S1 => lstW x S1 fun a _ => Q .non (put S1 a (.lst []))) X
  | .dnew t => fun _ S Q _ => ∀ p, S p = none → Q (.ref p) (put S p (if t = true then .dt false [] else .dk false []))
  | .dget d k e => fun σ S Q X => wpE d σ S (fun x S1 => (∃ a, x = .ref a ∧ ((∃ f kvs, S1 a = some (.dk f kvs)) ∨ ∃ f kvs, S1 a = some (.dt f kvs))) ∧ wpE k σ S1 (fun y S2 => wpE e σ S2 (fun z S3 => dgetW x y z S3 fun w => Q w S3) X) X) X
  | .dpop d k => fun σ S Q X => wpE d σ S (fun x S1 => (∃ a kvs, x = .ref a ∧ S1 a = some (.dk false kvs)) ∧ wpE k σ S1 (fun y S2 => dkW x S2 fun a kvs => match keyW y with
    | some k => (match valD kvs k with
      | some w => Q w (put S2 a (.dk false (dropD kvs k)))
      | none => False)
    | none => False) X) X
  | .deq k a b => fun σ S Q X => wpE a σ S (fun x S1 => wpE b σ S1 (fun y S2 => deqW x y S2 fun z => Q (.bl (z == k)) S2) X) X
  | .ddsp ks es => fun σ S Q X => wpEs es σ S (fun ws S1 => ks.length = ws.length ∧ ∀ p, S1 p = none → Q (.ref p) (put S1 p (.dk false (mkD ks ws)))) X
  | .setd d k e => fun σ S Q X => wpE d σ S (fun x S1 => (∃ a kvs, x = .ref a ∧ S1 a = some (.dk false kvs)) ∧ wpE k σ S1 (fun y S2 => wpE e σ S2 (fun z S3 => setdW x y z S3 Q) X) X) X
def wpEs : IEs → Envr → Sto → (List W → Sto → Prop) → XQ → Prop
  | .nil => fun _ S Q _ => Q [] S
  | .cons e es => fun σ S Q X => wpE e σ S (fun w S1 => wpEs es σ S1 (fun ws S2 => Q (w :: ws) S2) X) X
def wpO : IO → Envr → Sto → (Option Int → Sto → Prop) → XQ → Prop
  | .none => fun _ S Q _ => Q none S
  | .some e => fun σ S Q X => wpE e σ S (fun w S1 => match w with
    | .int i => Q (some i) S1
    | _ => False) X
def wpT : IT → Envr → Sto → (List W → Sto → Prop) → XQ → Prop
  | .dsp es => fun σ S Q X => wpEs es σ S (fun ws S1 => ws.length ≤ sizeLine ∧ Q ws S1) X
  | .cat a b => fun σ S Q X => wpL a σ S (fun xs k1 st S1 => wpL b σ S1 (fun ys k2 _ S2 => k1 ≠ .tu ∧ k2 ≠ .tu ∧ st S2 ∧ xs.length + ys.length ≤ sizeLine ∧ Q (xs ++ ys) S2) X) X
  | .slc a lo hi => fun σ S Q X => wpL a σ S (fun xs k st S1 => wpO lo σ S1 (fun l S2 => wpO hi σ S2 (fun h S3 => k ≠ .tu ∧ st S3 ∧ Q (cutW xs l h) S3) X) X) X
  | .rev a => fun σ S Q X => wpL a σ S (fun xs k _ S1 => k ≠ .tu ∧ Q xs.reverse S1) X
  | .lst a => fun σ S Q X => wpL a σ S (fun xs _ _ S1 => Q xs S1) X
  | .srt a => fun σ S Q X => wpL a σ S (fun xs k _ S1 => k ≠ .tu ∧ srtW xs fun ys => Q ys S1) X
  | .sset a => fun σ S Q X => wpL a σ S (fun xs k _ S1 => k ≠ .tu ∧ sSetW xs fun ys => Q ys S1) X
  | .rep a n => fun σ S Q X => wpL a σ S (fun xs k st S1 => wpE n σ S1 (fun y S2 => match y with
    | .int i => k = .ls ∧ st S2 ∧ 0 ≤ i ∧ i ≤ 1000000 ∧ xs.length * i.toNat ≤ sizeLine ∧ Q (List.replicate i.toNat xs).flatten S2
    | _ => False) X) X
  | .comp e g it own => fun σ S Q X => wpI it σ S (fun xs st S1 => ∃ I : Nat → List W → Sto → Prop, (∃ S2, Sub S2 S1 ∧ I 0 [] S2) ∧
      (∀ k acc S3 x, xs[k]? = some x → I k acc S3 → st S3 ∧ wpG g x (wipeW σ own) S3 (fun σ' S4 => wpE e σ' S4 (fun y S5 => acc.length < sizeLine ∧ I (k + 1) (acc ++ [y]) S5) noX) noX) ∧
      ∀ acc S3, I xs.length acc S3 → st S3 ∧ Q acc S3) X
  | .compif e c g it own => fun σ S Q X => wpI it σ S (fun xs st S1 => ∃ I : Nat → List W → Sto → Prop, (∃ S2, Sub S2 S1 ∧ I 0 [] S2) ∧
      (∀ k acc S3 x, xs[k]? = some x → I k acc S3 → st S3 ∧ wpG g x (wipeW σ own) S3 (fun σ' S4 => wpE c σ' S4 (fun z S5 => asBl z fun b =>
        if b = true then wpE e σ' S5 (fun y S6 => acc.length < sizeLine ∧ I (k + 1) (acc ++ [y]) S6) noX else I (k + 1) acc S5) noX) noX) ∧
      ∀ acc S3, I xs.length acc S3 → st S3 ∧ Q acc S3) X
  | .srtd d => fun σ S Q X => wpE d σ S (fun x S1 => srtdW x S1 fun ws => Q ws S1) X
  | .srtD a => fun σ S Q X => wpL a σ S (fun xs k _ S1 => k ≠ .tu ∧ srtDW xs S1 fun ys => Q ys S1) X
  | .lck t => fun σ S Q _ => ∃ a kvs, S a = some (.dk false kvs) ∧ wpT t σ (put S a (.dk true kvs)) (fun ws S1 => Q ws (put S1 a (.dk false kvs))) noX
def wpL : IL → Envr → Sto → LQ → XQ → Prop
  | .t t => fun σ S Q X => wpT t σ S (fun ws S1 => Q ws .ls (fun _ => True) S1) X
  | .of e => fun σ S Q X => wpE e σ S (fun x S1 => match x with
    | .tup ws => Q ws .tu (fun _ => True) S1
    | .rol ws => Q ws .ro (fun _ => True) S1
    | .ref a => (match S1 a with
      | some (.lst ws) => Q ws .ls (fun S2 => S2 a = some (.lst ws)) S1
      | _ => False)
    | _ => False) X
def wpG : IG → W → Envr → Sto → (Envr → Sto → Prop) → XQ → Prop
  | .nm i => fun w σ S Q _ => Q (σ.set i (some w)) S
  | .tup gs => fun w σ S Q X => match w with
    | .tup ws => ws.length = gs.len ∧ wpGs gs ws σ S Q X
    | _ => False
  | .sub o i => fun w σ S Q X => wpE o σ S (fun x S1 => wpE i σ S1 (fun y S2 => setW x y w S2 (Q σ)) X) X
  | .slc o lo hi => fun w σ S Q X => wpE o σ S (fun x S1 => wpE lo σ S1 (fun i S2 => wpE hi σ S2 (fun j S3 => slsW x i j w S3 (Q σ)) X) X) X
def wpGs : IGs → List W → Envr → Sto → (Envr → Sto → Prop) → XQ → Prop
  | .nil => fun ws σ S Q _ => match ws with
    | [] => Q σ S
    | _ => False
  | .cons g gs => fun ws σ S Q X => match ws with
    | w :: r => wpG g w σ S (fun σ' S' => wpGs gs r σ' S' Q X) X
    | _ => False
def wpI : II → Envr → Sto → (List W → (Sto → Prop) → Sto → Prop) → XQ → Prop
  | .lst l => fun σ S Q X => wpL l σ S (fun ws _ st S1 => Q ws st S1) X
  | .rng e => fun σ S Q X => wpE e σ S (fun x S1 => match x with
    | .int n => rngOk n ∧ Q (rngW 0 n.toNat) (fun _ => True) S1
    | _ => False) X
  | .rng2 a b => fun σ S Q X => wpE a σ S (fun x S1 => wpE b σ S1 (fun y S2 => match x, y with
    | .int i, .int j => rngOk2 i ∧ rngOk2 j ∧ Q (rngW i (j - i).toNat) (fun _ => True) S2
    | _, _ => False) X) X
  | .zip a b => fun σ S Q X => wpL a σ S (fun xs k1 s1 S1 => wpL b σ S1 (fun ys k2 s2 S2 => ((k1 ≠ .tu ∧ k2 ≠ .tu) ∨ (k1 = .tu ∧ k2 = .tu)) ∧ s1 S2 ∧ Q (zipW xs ys) (fun S => s1 S ∧ s2 S) S2) X) X
  | .enm a => fun σ S Q X => wpL a σ S (fun xs k st S1 => k ≠ .tu ∧ Q (enmW xs) st S1) X
  | .rngd a b c => fun σ S Q X => wpE a σ S (fun x S1 => wpE b σ S1 (fun y S2 => wpE c σ S2 (fun z S3 => z = .int (-1) ∧ match x, y with
    | .int i, .int j => rngOk i ∧ rngOk j ∧ Q (rngdW i (i - j).toNat) (fun _ => True) S3
    | _, _ => False) X) X) X
  | .keys e => fun σ S Q X => wpE e σ S (fun x S1 => match x with
    | .ref a => (match S1 a with
      | some (.dk true kvs) => Q (kvs.map fun kv => kW kv.1) (fun _ => True) S1
      | _ => False)
    | _ => False) X
end
end
mutual
def wpS (G : Gs) : IS → MEnds → Envr → Sto → Prop
  | .set i e => fun D σ S => wpE G e σ S (fun w S1 => D.nx (σ.set i (some w)) S1) (D.ex σ)
  | .asg g e => fun D σ S => wpE G e σ S (fun w S1 => wpG G g w σ S1 D.nx noX) (D.ex σ)
  | .par i j a b => fun D σ S => wpE G a σ S (fun x S1 => wpE G b σ S1 (fun y S2 => D.nx ((σ.set i (some x)).set j (some y)) S2) (D.ex σ)) (D.ex σ)
  | .aug i op e => fun D σ S => match getv σ i with
    | some x => wpE G e σ S (fun y S1 => augW op x y fun z => D.nx (σ.set i (some z)) S1) (D.ex σ)
    | none => False
  | .exp e => fun D σ S => wpE G e σ S (fun _ S1 => D.nx σ S1) (D.ex σ)
  | .ret e => fun D σ S => wpE G e σ S D.rt (D.ex σ)
  | .retN => fun D _ S => D.rt .non S
  | .pas => fun D σ S => D.nx σ S
  | .brk => fun D σ S => D.bk σ S
  | .cnt => fun D σ S => D.ct σ S
  | .iff c a b => fun D σ S => wpE G c σ S (fun x S1 => asBl x fun k => if k = true then wpSs G a D σ S1 else wpSs G b D σ S1) (D.ex σ)
  | .whl c b => fun D σ S => ∃ I : Nat → Envr → Sto → Prop, (∃ n S2, Sub S2 S ∧ I n σ S2) ∧ ∀ n σ S, I n σ S →
      wpE G c σ S (fun x S1 => asBl x fun k => if k = true then wpSs G b { D with nx := fun σ' S' => ∃ m, m < n ∧ I m σ' S', ct := fun σ' S' => ∃ m, m < n ∧ I m σ' S', bk := D.nx } σ S1 else D.nx σ S1) (D.ex σ)
  | .for g it b => fun D σ S => wpI G it σ S (fun xs st S1 => ∃ I : Nat → Envr → Sto → Prop, (∃ S2, Sub S2 S1 ∧ I 0 σ S2) ∧
      (∀ k x σ' S', xs[k]? = some x → I k σ' S' → st S' ∧ wpG G g x σ' S' (fun σ2 S2 => wpSs G b { D with nx := I (k + 1), ct := I (k + 1), bk := D.nx } σ2 S2) noX) ∧
      ∀ σ' S', I xs.length σ' S' → st S' ∧ D.nx σ' S') (D.ex σ)
  | .sfl c o f e => fun D σ S => wpE G e σ S (fun y S1 => wpE G o σ S1 (fun x S2 => setF x (G.cl c) f y S2 (D.nx σ)) (D.ex σ)) (D.ex σ)
  | .rse c => fun D σ S => c ∈ G.ex ∧ D.ex σ (G.cl c) S
  | .tryO b c s => fun D σ S => wpSs G b { D with ex := fun σ' C S' => ∃ n, n ∈ G.ex ∧ C = G.cl n ∧ ((subX n c = true ∧ ∀ a, S' a = none → wpSs { G with hx := some (a, n) } s { D with ex := fun _ _ _ => False } σ' S') ∨ (subX n c = false ∧ D.ex σ' C S')) } σ S
  | .tryA b c i s => fun D σ S => wpSs G b { D with ex := fun σ' C S' => ∃ n, n ∈ G.ex ∧ C = G.cl n ∧ ((subX n c = true ∧ ∀ a, S' a = none → wpSs { G with hx := some (a, n) } s { nx := fun σ2 S2 => D.nx (σ2.set i none) S2, rt := D.rt, bk := fun σ2 S2 => D.bk (σ2.set i none) S2, ct := fun σ2 S2 => D.ct (σ2.set i none) S2, ex := fun _ _ _ => False } (σ'.set i (some (.ref a))) S') ∨ (subX n c = false ∧ D.ex σ' C S')) } σ S
  | .ford g i b => fun D σ S => match getv σ i with
    | some (.ref a) => (match S a with
      | some U => (match keysOf U with
        | some xs => ∃ I : Nat → Envr → Sto → Prop, (∃ S2, Sub S2 (del S a) ∧ I 0 σ S2) ∧
          (∀ k x σ' S', xs[k]? = some x → I k σ' S' → wpG G g x σ' S' (fun σ2 S2 => wpSs G b { nx := I (k + 1), ct := I (k + 1), bk := fun σ3 S3 => S3 a = none → D.nx σ3 (put S3 a U), rt := fun w S3 => S3 a = none → D.rt w (put S3 a U), ex := fun _ _ _ => False } σ2 S2) noX) ∧
          ∀ σ' S', I xs.length σ' S' → S' a = none → D.nx σ' (put S' a U)
        | none => False)
      | none => False)
    | _ => False
def wpSs (G : Gs) : ISs → MEnds → Envr → Sto → Prop
  | .nil => fun D σ S => D.nx σ S
  | .cons s r => fun D σ S => wpS G s { D with nx := wpSs G r D } σ S
end
section
variable (G : Gs)
def wpF (n : Nat) (b : ISs) (ws : List W) (S : Sto) (Q : WQ) (X : XQ) : Prop :=
  wpSs G b { nx := fun _ S' => ∃ S2, Sub S2 S' ∧ Q .non S2, rt := fun w S' => ∃ S2, Sub S2 S' ∧ Q w S2, bk := fun _ _ => False, ct := fun _ _ => False, ex := fun _ C S' => ∃ S2, Sub S2 S' ∧ X C S2 } (ws.map some ++ List.replicate (n - ws.length) none) S
end
structure Ctx where
  N : List Str
  fns : List (Nat × Str)
  mth : List (Nat × Nat × Str) := []
  mks : List (Nat × Nat × Str) := []
  fld : List (Nat × Str) := []
  exc : List (Nat × Str) := []
  gls : List (Str × Key) := []
  hot : Bool := false
def visB (sc : Scope) (x : Str) : Bool := match sc.names.lookup x with
  | some .local => true
  | some .cell => true
  | some .free => true
  | _ => false
def glB (sc : Scope) (x : Str) : Bool := match sc.names.lookup x with
  | some .globalImplicit => true
  | _ => false
def stoB (top : Bool) (sc : Scope) (x : Str) : Bool := match sc.names.lookup x with
  | some .local => true
  | some .cell => top
  | _ => false
def plainNm (x : Str) : Bool := !(x == ("__debug__" : Str)) && !(x == ("__classdict__" : Str))
def nmB (C : Ctx) (sc : Scope) (i : Nat) (x : Str) : Bool := decide (C.N[i]? = some x) && visB sc x && plainNm x
def opB : BOp → Operator → Bool
  | .add, .Add => true
  | .sub, .Sub => true
  | .mul, .Mult => true
  | .fdiv, .FloorDiv => true
  | .mod, .Mod => true
  | .pow, .Pow => true
  | _, _ => false
def copB : COp → CmpOp → Bool
  | .lt, .Lt => true
  | .le, .LtE => true
  | .gt, .Gt => true
  | .ge, .GtE => true
  | .eq, .Eq => true
  | .ne, .NotEq => true
  | _, _ => false
def notStar : Expr → Bool
  | .Starred _ _ => false
  | _ => true
def notSlice : Expr → Bool
  | .Slice _ _ _ _ => false
  | _ => true
def notSet : Expr → Bool
  | .Set _ _ _ => false
  | _ => true
def noMark (op : CmpOp) (e : Expr) : Bool := !behindInMarks op e
def foldC : Expr → Option Int
  | .Constant (.int i) _ _ => some i
  | .UnaryOp .USub a _ => (foldC a).map fun i => -i
  | .BinOp a op b _ => match foldC a, foldC b with
    | some i, some j => (match op with
      | .Add => some (i + j)
      | .Sub => some (i - j)
      | .Mult => if i.natAbs < 2 ^ 64 then some (i * j) else none
      | .Pow => if 0 ≤ j ∧ j ≤ 1000 ∧ i.natAbs < 2 ^ 64 then some (i ^ j.toNat) else none
      | _ => none)
    | _, _ => none
  | _ => none
def cstB (w : W) (e : Expr) : Bool := match e, w with
  | .Constant .none _ _, .non => true
  | .Constant (.bool b) _ _, .bl c => b == c
  | .Constant (.str x) _ _, .str y => decide (x = y)
  | _, .int i => decide (foldC e = some i)
  | _, _ => false
def isN1 : Expr → Bool
  | .UnaryOp .USub (.Constant (.int i) _ _) _ => decide (i = 1)
  | _ => false
def callNm (sc : Scope) (x : Str) : Expr → Option (List Expr)
  | .Call (.Name y _) args [] _ => if decide (y = x) && glB sc y && plainNm y then some args else none
  | _ => none
def baseOk : Expr → Bool
  | .Call (.Name _ _) [] [] _ => false
  | _ => true
def callMt (m : Str) : Expr → Option (Expr × List Expr)
  | .Call (.Attribute o n ap) args [] pos => if decide (n = m) && baseOk o && (ap.endLine == pos.line) then some (o, args) else none
  | _ => none
def isaT (t : String) (y : Str) : Bool := (t == "int" && decide (y = "int")) || (t == "bool" && decide (y = "bool")) || (t == "str" && decide (y = "str")) || (t == "tuple" && decide (y = "tuple")) || (t == "list" && decide (y = "list"))
def keysB : List Key → List (Option Expr) → Bool
  | [], [] => true
  | .inl i :: r, some (.Constant (.int j) _ _) :: t => decide (i = j) && keysB r t
  | .inr x :: r, some (.Constant (.str y) _ _) :: t => decide (x = y) && keysB r t
  | _, _ => false
def isxTB (C : Ctx) (sc : Scope) : List Nat → List Expr → Bool
  | [], [] => true
  | n :: ns, .Name y _ :: r => C.exc.contains (n, y) && glB sc y && plainNm y && isxTB C sc ns r
  | _, _ => false
mutual
def chkE (C : Ctx) : IE → Scope → Bool → Expr → Bool
  | .var i => fun sc _ e => match e with
    | .Name x _ => nmB C sc i x
    | _ => false
  | .cst w => fun _ _ e => cstB w e
  | .bin op a b => fun sc tp e => match e with
    | .BinOp l o r _ => opB op o && chkE C a sc tp l && chkE C b sc tp r
    | _ => false
  | .neg a => fun sc tp e => match e with
    | .UnaryOp .USub x _ => chkE C a sc tp x
    | _ => false
  | .cmp op a b => fun sc tp e => match e with
    | .Compare l [o] [r] _ => copB op o && chkE C a sc tp l && chkE C b sc tp r
    | _ => false
  | .chn op op' a b c => fun sc tp e => match e with
    | .Compare l [o, o'] [m, r] _ => copB op o && copB op' o' && chkE C a sc tp l && chkE C b sc tp m && chkE C c sc tp r
    | _ => false
  | .isN k a => fun sc tp e => match e with
    | .Compare l [o] [.Constant .none _ _] _ => (match o with
      | .Is => k
      | .IsNot => !k
      | _ => false) && chkE C a sc tp l
    | _ => false
  | .isB k a b => fun sc tp e => match e with
    | .Compare l [o] [.Constant (.bool c) _ _] _ => (match o with
      | .Is => k
      | .IsNot => !k
      | _ => false) && (b == c) && chkE C a sc tp l
    | _ => false
  | .inn k a b => fun sc tp e => match e with
    | .Compare l [o] [r] _ => (match o with
      | .In => k
      | .NotIn => !k
      | _ => false) && noMark o r && chkE C a sc tp l && chkE C b sc tp r
    | _ => false
  | .and a b => fun sc tp e => match e with
    | .BoolOp .And (x :: y :: rest) pos => chkE C a sc tp x && (match rest with
      | [] => chkE C b sc tp y
      | _ => chkE C b sc tp (.BoolOp .And (y :: rest) pos))
    | _ => false
  | .or a b => fun sc tp e => match e with
    | .BoolOp .Or (x :: y :: rest) pos => chkE C a sc tp x && (match rest with
      | [] => chkE C b sc tp y
      | _ => chkE C b sc tp (.BoolOp .Or (y :: rest) pos))
    | _ => false
  | .not a => fun sc tp e => match e with
    | .UnaryOp .Not x _ => chkE C a sc tp x
    | _ => false
  | .ite c a b => fun sc tp e => match e with
    | .IfExp t x y _ => chkE C c sc tp t && chkE C a sc tp x && chkE C b sc tp y
    | _ => false
  | .tup es => fun sc tp e => match e with
    | .Tuple xs _ _ => chkEs C es sc tp xs
    | _ => false
  | .idx a i => fun sc tp e => match e with
    | .Subscript o s _ => notSlice s && chkE C a sc tp o && chkE C i sc tp s
    | _ => false
  | .slc a lo hi => fun sc tp e => match e with
    | .Subscript o (.Slice l h none _) _ => chkE C a sc tp o && chkO C lo sc tp l && chkO C hi sc tp h
    | _ => false
  | .call f es => fun sc tp e => match C.fns.lookup f with
    | some x => (match callNm sc x e with
      | some args => chkEs C es sc tp args && !C.hot
      | none => false)
    | none => false
  | .isa a t => fun sc tp e => match callNm sc "isinstance" e with
    | some [x, .Name y _] => glB sc y && plainNm y && isaT t y && notStar x && chkE C a sc tp x
    | _ => false
  | .mx a b => fun sc tp e => match callNm sc "max" e with
    | some [x, y] => chkE C a sc tp x && chkE C b sc tp y && notStar x && notStar y && !C.hot
    | _ => false
  | .mn a b => fun sc tp e => match callNm sc "min" e with
    | some [x, y] => chkE C a sc tp x && chkE C b sc tp y && notStar x && notStar y && !C.hot
    | _ => false
  | .len a => fun sc tp e => match callNm sc "len" e with
    | some [x] => chkE C a sc tp x && notStar x
    | _ => false
  | .mat t => fun sc tp e => chkT C t sc tp e
  | .tupl l => fun sc tp e => match callNm sc "tuple" e with
    | some [x] => chkL C l sc tp x && notStar x
    | _ => false
  | .sum l => fun sc tp e => match callNm sc "sum" e with
    | some [x] => chkL C l sc tp x && notStar x && !C.hot
    | _ => false
  | .any l => fun sc tp e => match callNm sc "any" e with
    | some [x] => chkL C l sc tp x && notStar x && !C.hot
    | _ => false
  | .all l => fun sc tp e => match callNm sc "all" e with
    | some [x] => chkL C l sc tp x && notStar x && !C.hot
    | _ => false
  | .max1 l => fun sc tp e => match callNm sc "max" e with
    | some [x] => chkL C l sc tp x && notStar x && !C.hot
    | _ => false
  | .min1 l => fun sc tp e => match callNm sc "min" e with
    | some [x] => chkL C l sc tp x && notStar x && !C.hot
    | _ => false
  | .idl l i => fun sc tp e => match e with
    | .Subscript o s _ => notSlice s && chkL C l sc tp o && chkE C i sc tp s
    | _ => false
  | .eql k a b => fun sc tp e => match e with
    | .Compare l [o] [r] _ => (match o with
      | .Eq => k
      | .NotEq => !k
      | _ => false) && chkL C a sc tp l && chkL C b sc tp r
    | _ => false
  | .app o x => fun sc tp e => match callMt "append" e with
    | some (r, [y]) => chkE C o sc tp r && chkE C x sc tp y && notStar y
    | _ => false
  | .ext o l => fun sc tp e => match callMt "extend" e with
    | some (r, [y]) => chkE C o sc tp r && chkL C l sc tp y && notStar y
    | _ => false
  | .pop0 o => fun sc tp e => match callMt "pop" e with
    | some (r, []) => chkE C o sc tp r
    | _ => false
  | .pop1 o i => fun sc tp e => match callMt "pop" e with
    | some (r, [y]) => chkE C o sc tp r && chkE C i sc tp y && notStar y
    | _ => false
  | .fld c o f => fun sc tp e => match e with
    | .Attribute r g _ => decide (g = f) && baseOk r && C.fld.contains (c, f) && chkE C o sc tp r
    | _ => false
  | .meth f c m o es => fun sc tp e => match e with
    | .Call (.Attribute r g ap) args [] pos => decide (g = m) && baseOk r && (ap.endLine == pos.line) && decide (args.length < 30) && C.mth.contains (f, c, m) && !C.hot && chkE C o sc tp r && chkEs C es sc tp args
    | _ => false
  | .make f c es => fun sc tp e => match e with
    | .Call (.Name y _) args [] _ => C.mks.contains (f, c, y) && !C.hot && glB sc y && plainNm y && chkEs C es sc tp args
    | _ => false
  | .glb x k => fun sc _ e => match e with
    | .Name y _ => decide (y = x) && (C.gls.any fun p => decide (p = (x, k))) && glB sc y && plainNm y
    | _ => false
  | .isx o c => fun sc tp e => match callNm sc "isinstance" e with
    | some [x, .Name y _] => (match c with
      | some n => C.exc.contains (n, y)
      | none => decide (y = "ValueError")) && C.hot && glB sc y && plainNm y && notStar x && chkE C o sc tp x
    | _ => false
  | .isxT o cs => fun sc tp e => match callNm sc "isinstance" e with
    | some [x, .Tuple ys _ _] => isxTB C sc cs ys && C.hot && notStar x && decide (ys.length < 30) && chkE C o sc tp x
    | _ => false
  | .join s l => fun sc tp e => match callMt "join" e with
    | some (r, [y]) => chkE C s sc tp r && chkL C l sc tp y && notStar y
    | _ => false
  | .strI a => fun sc tp e => match callNm sc "str" e with
    | some [x] => chkE C a sc tp x && notStar x
    | _ => false
  | .intE a => fun sc tp e => match callNm sc "int" e with
    | some [x] => chkE C a sc tp x && notStar x
    | _ => false
  | .absI a => fun sc tp e => match callNm sc "abs" e with
    | some [x] => chkE C a sc tp x && notStar x
    | _ => false
  | .ins o i x => fun sc tp e => match callMt "insert" e with
    | some (r, [y, z]) => chkE C o sc tp r && chkE C i sc tp y && notStar y && chkE C x sc tp z && notStar z
    | _ => false
  | .rem o x => fun sc tp e => match callMt "remove" e with
    | some (r, [y]) => chkE C o sc tp r && chkE C x sc tp y && notStar y
    | _ => false
  | .ixo o x => fun sc tp e => match callMt "index" e with
    | some (r, [y]) => chkE C o sc tp r && chkE C x sc tp y && notStar y
    | _ => false
  | .revm o => fun sc tp e => match callMt "reverse" e with
    | some (r, []) => chkE C o sc tp r
    | _ => false
  | .clr o => fun sc tp e => match callMt "clear" e with
    | some (r, []) => chkE C o sc tp r
    | _ => false
  | .dnew _ => fun _ _ e => match e with
    | .Dict [] [] _ => true
    | _ => false
  | .dget d k x => fun sc tp e => match callMt "get" e with
    | some (r, [y, z]) => chkE C d sc tp r && chkE C k sc tp y && notStar y && chkE C x sc tp z && notStar z
    | _ => false
  | .deq k a b => fun sc tp e => match e with
    | .Compare l [o] [r] _ => (match o with
      | .Eq => k
      | .NotEq => !k
      | _ => false) && chkE C a sc tp l && chkE C b sc tp r
    | _ => false
  | .ddsp ks es => fun sc tp e => match e with
    | .Dict (k0 :: kr) vs _ => keysB ks (k0 :: kr) && decide (kr.length < 15) && decide (kr.length + 1 = vs.length) && chkEs C es sc tp vs
    | _ => false
  | .setd d k x => fun sc tp e => match callMt "setdefault" e with
    | some (r, [y, z]) => chkE C d sc tp r && chkE C k sc tp y && notStar y && chkE C x sc tp z && notStar z
    | _ => false
  | .dpop d k => fun sc tp e => match callMt "pop" e with
    | some (r, [y]) => chkE C d sc tp r && chkE C k sc tp y && notStar y
    | _ => false
def chkEs (C : Ctx) : IEs → Scope → Bool → List Expr → Bool
  | .nil => fun _ _ es => match es with
    | [] => true
    | _ => false
  | .cons a r => fun sc tp es => match es with
    | e :: t => notStar e && chkE C a sc tp e && chkEs C r sc tp t
    | _ => false
def chkO (C : Ctx) : IO → Scope → Bool → Option Expr → Bool
  | .none => fun _ _ e => match e with
    | none => true
    | _ => false
  | .some a => fun sc tp e => match e with
    | some x => chkE C a sc tp x
    | _ => false
def chkT (C : Ctx) : IT → Scope → Bool → Expr → Bool
  | .dsp es => fun sc tp e => match e with
    | .List xs _ => chkEs C es sc tp xs
    | _ => false
  | .cat a b => fun sc tp e => match e with
    | .BinOp l .Add r _ => chkL C a sc tp l && chkL C b sc tp r
    | _ => false
  | .slc a lo hi => fun sc tp e => match e with
    | .Subscript o (.Slice l h none _) _ => chkL C a sc tp o && chkO C lo sc tp l && chkO C hi sc tp h
    | _ => false
  | .rev a => fun sc tp e => match e with
    | .Subscript o (.Slice none none (some x) _) _ => isN1 x && chkL C a sc tp o
    | _ => false
  | .lst a => fun sc tp e => match callNm sc "list" e with
    | some [x] => chkL C a sc tp x && notStar x
    | _ => false
  | .srtd d => fun sc tp e => match callNm sc "sorted" e with
    | some [x] => chkE C d sc tp x && notStar x && !C.hot
    | _ => false
  | .srtD a => fun sc tp e => match callNm sc "sorted" e with
    | some [x] => chkL C a sc tp x && notStar x && !C.hot
    | _ => false
  | .lck t => fun sc tp e => chkT C t sc tp e && (match e with
    | .Call _ _ _ _ => true
    | _ => false)
  | .srt a => fun sc tp e => match callNm sc "sorted" e with
    | some [x] => chkL C a sc tp x && notStar x && !C.hot
    | _ => false
  | .sset a => fun sc tp e => match callNm sc "sorted" e with
    | some [x] => (match callNm sc "set" x with
      | some [y] => chkL C a sc tp y && notStar y && !C.hot
      | _ => false)
    | _ => false
  | .rep a n => fun sc tp e => match e with
    | .BinOp l .Mult r _ => chkL C a sc tp l && chkE C n sc tp r
    | _ => false
  | .comp a g it own => fun sc tp e => match e with
    | .ListComp x [⟨tg, iter, [], 0⟩] scope _ => chkI C it sc tp tg iter && notSet iter && blkC C.N sc scope (own.map fun i => (C.N.getD i "", i)) && (gSlots g).all (fun i => own.contains i) &&
        chkG C g (relS scope sc) false tg && chkE C a (relS scope sc) false x && !C.hot
    | _ => false
  | .compif a c g it own => fun sc tp e => match e with
    | .ListComp x [⟨tg, iter, [t], 0⟩] scope _ => chkI C it sc tp tg iter && notSet iter && blkC C.N sc scope (own.map fun i => (C.N.getD i "", i)) && (gSlots g).all (fun i => own.contains i) &&
        chkG C g (relS scope sc) false tg && chkE C c (relS scope sc) false t && chkE C a (relS scope sc) false x && !C.hot
    | _ => false
def chkL (C : Ctx) : IL → Scope → Bool → Expr → Bool
  | .t t => fun sc tp e => chkT C t sc tp e
  | .of a => fun sc tp e => chkE C a sc tp e
def chkG (C : Ctx) : IG → Scope → Bool → Expr → Bool
  | .nm i => fun sc tp e => match e with
    | .Name x _ => decide (C.N[i]? = some x) && stoB tp sc x
    | _ => false
  | .tup gs => fun sc tp e => match e with
    | .Tuple xs _ _ => chkGs C gs sc tp xs && !C.hot
    | _ => false
  | .sub o i => fun sc tp e => match e with
    | .Subscript x s _ => notSlice s && chkE C o sc tp x && chkE C i sc tp s
    | _ => false
  | .slc o lo hi => fun sc tp e => match e with
    | .Subscript x (.Slice (some l) (some h) none _) _ => chkE C o sc tp x && chkE C lo sc tp l && chkE C hi sc tp h
    | _ => false
def chkGs (C : Ctx) : IGs → Scope → Bool → List Expr → Bool
  | .nil => fun _ _ es => match es with
    | [] => true
    | _ => false
  | .cons g r => fun sc tp es => match es with
    | e :: t => notStar e && chkG C g sc tp e && chkGs C r sc tp t
    | _ => false
def chkI (C : Ctx) : II → Scope → Bool → Expr → Expr → Bool
  | .lst l => fun sc tp _ e => chkL C l sc tp e
  | .rng a => fun sc tp _ e => match callNm sc "range" e with
    | some [x] => chkE C a sc tp x && notStar x
    | _ => false
  | .rng2 a b => fun sc tp _ e => match callNm sc "range" e with
    | some [x, y] => chkE C a sc tp x && chkE C b sc tp y && notStar x && notStar y
    | _ => false
  | .keys d => fun sc tp _ e => chkE C d sc tp e
  | .rngd a b c => fun sc tp _ e => match callNm sc "range" e with
    | some [x, y, z] => chkE C a sc tp x && chkE C b sc tp y && chkE C c sc tp z && notStar x && notStar y && notStar z
    | _ => false
  | .zip a b => fun sc tp tg e => (match tg with
    | .Tuple _ _ _ => true
    | _ => false) && (match callNm sc "zip" e with
    | some [x, y] => chkL C a sc tp x && chkL C b sc tp y && notStar x && notStar y
    | _ => false)
  | .enm a => fun sc tp tg e => (match tg with
    | .Tuple _ _ _ => true
    | _ => false) && (match callNm sc "enumerate" e with
    | some [x] => chkL C a sc tp x && notStar x
    | _ => false)
def gSlots : IG → List Nat
  | .nm i => [i]
  | .tup gs => gsSlots gs
  | .sub _ _ => []
  | .slc _ _ _ => []
def gsSlots : IGs → List Nat
  | .nil => []
  | .cons g gs => gSlots g ++ gsSlots gs
end
def isLC : Expr → Bool
  | .ListComp _ _ _ _ => true
  | .SetComp _ _ _ _ => true
  | .DictComp _ _ _ _ _ => true
  | _ => false
def iopB : BOp → Operator → Bool
  | .add, .Add => true
  | .sub, .Sub => true
  | _, _ => false
def swOk : Expr → Expr → Bool
  | .Tuple _ _ _, .Tuple vs _ _ => vs.all (foldedForSure 8)
  | .List _ _, .Tuple _ _ _ => false
  | .Name _ _, _ => false
  | _, _ => true
def callMsg : Expr → Option Str
  | .Call (.Name x _) [.Constant (.str _) _ _] [] _ => some x
  | _ => none
mutual
def chkS (C : Ctx) : IS → Scope → Stmt → Bool
  | .set i e => fun sc s => match s with
    | .Assign [.Name y _] v _ => decide (C.N[i]? = some y) && stoB true sc y && chkE C e sc true v
    | _ => false
  | .asg g e => fun sc s => match s with
    | .Assign [tg] v _ => swOk tg v && !isLC v && notStar tg && chkG C g sc true tg && chkE C e sc true v
    | _ => false
  | .par i j a b => fun sc s => match s with
    | .Assign [.Tuple [.Name x px, .Name y py] kt pt] (.Tuple [ea, eb] k2 pt2) _ => decide (C.N[i]? = some x) && decide (C.N[j]? = some y) && !(x == y) && (px.line == py.line) &&
      !(foldedForSure 8 ea && foldedForSure 8 eb) && !(constantsAlone 8 ea && constantsAlone 8 eb) && chkEs C (.cons a (.cons b .nil)) sc true [ea, eb] && chkG C (.tup (.cons (.nm i) (.cons (.nm j) .nil))) sc true (.Tuple [.Name x px, .Name y py] kt pt) && chkE C (.tup (.cons a (.cons b .nil))) sc true (.Tuple [ea, eb] k2 pt2)
    | _ => false
  | .aug i op e => fun sc s => match s with
    | .AugAssign (.Name y _) o v _ => iopB op o && decide (C.N[i]? = some y) && stoB true sc y && chkE C e sc true v
    | _ => false
  | .exp e => fun sc s => match s with
    | .Expr v _ => !isLC v && chkE C e sc true v
    | _ => false
  | .ret e => fun sc s => match s with
    | .Return (some v) _ => chkE C e sc true v
    | _ => false
  | .retN => fun _ s => match s with
    | .Return none _ => true
    | _ => false
  | .pas => fun _ s => match s with
    | .Pass _ => true
    | _ => false
  | .brk => fun _ s => match s with
    | .Break _ => true
    | _ => false
  | .cnt => fun _ s => match s with
    | .Continue _ => true
    | _ => false
  | .iff c a b => fun sc s => match s with
    | .If t x y _ => chkE C c sc true t && chkSs C a sc x && chkSs C b sc y
    | _ => false
  | .whl c b => fun sc s => match s with
    | .While t x [] _ => chkE C c sc true t && chkSs C b sc x
    | _ => false
  | .for g it b => fun sc s => match s with
    | .For tg iter x [] _ => notSet iter && chkI C it sc true tg iter && chkG C g sc true tg && chkSs C b sc x && !C.hot
    | _ => false
  | .ford g i b => fun sc s => match s with
    | .For tg (.Name y _) x [] _ => nmB C sc i y && chkG C g sc true tg && chkSs C b sc x && !C.hot
    | _ => false
  | .sfl c o f e => fun sc s => match s with
    | .Assign [.Attribute r g _] v _ => decide (g = f) && C.fld.contains (c, f) && chkE C o sc true r && chkE C e sc true v
    | _ => false
  | .rse c => fun sc s => match s with
    | .Raise (some e) none _ => (match callMsg e with
      | some x => !C.hot && C.exc.contains (c, x) && glB sc x && plainNm x
      | none => false)
    | _ => false
  | .tryO b c s => fun sc st => match st with
    | .Try body [.ExceptHandler (some (.Name x _)) none (s0 :: su) _] [] [] _ => !C.hot && C.exc.contains (c, x) && glB sc x && plainNm x && chkSs C b sc body && chkSs { C with hot := true } s sc (s0 :: su)
    | _ => false
  | .tryA b c i s => fun sc st => match st with
    | .Try body [.ExceptHandler (some (.Name x _)) (some n) (s0 :: su) _] [] [] _ => !C.hot && C.exc.contains (c, x) && glB sc x && plainNm x && decide (C.N[i]? = some n) && stoB false sc n && chkSs C b sc body && chkSs { C with hot := true } s sc (s0 :: su)
    | _ => false
def chkSs (C : Ctx) : ISs → Scope → List Stmt → Bool
  | .nil => fun _ ss => match ss with
    | [] => true
    | _ => false
  | .cons s r => fun sc ss => match ss with
    | t :: u => chkS C s sc t && chkSs C r sc u
    | _ => false
end
section
variable {X : Cx}
theorem pe_weak {e : Expr} {t t' : TE} (h : PE X e t) (k : ∀ Z H Q, t' Z H Q → t Z H Q) : PE X e t' := ⟨fun pins s Z H Q I q => h.run pins s Z H Q I (k Z H Q q)⟩
theorem pt_weak {e : Expr} {t t' : TT} (h : PT X e t) (k : ∀ Z H Q, t' Z H Q → t Z H Q) : PT X e t' := ⟨fun pins s Z H Q I q => h.run pins s Z H Q I (k Z H Q q)⟩
theorem pw_weak {e : Expr} {t t' : TT} (h : PW X e t) (k : ∀ Z H Q, t' Z H Q → t Z H Q) : PW X e t' := ⟨fun wh pins s Z H Q I q => h.run wh pins s Z H Q I (k Z H Q q)⟩
theorem pa_weak {e : List Expr} {t t' : TA} (h : PA X e t) (k : ∀ Z H Q, t' Z H Q → t Z H Q) : PA X e t' := ⟨fun pos pins s Z H Q I q => h.run pos pins s Z H Q I (k Z H Q q)⟩
theorem po_weak {e : Option Expr} {t t' : TO} (h : PO X e t) (k : ∀ Z H Q, t' Z H Q → t Z H Q) : PO X e t' := ⟨fun pins s Z H Q I q => h.run pins s Z H Q I (k Z H Q q)⟩
theorem pg_weak {e : Expr} {t t' : TG} (h : PG X e t) (k : ∀ v Z H Q, t' v Z H Q → t v Z H Q) : PG X e t' := ⟨fun pins s Z H v u Q I r q => h.run pins s Z H v u Q I r (k v Z H Q q)⟩
theorem pgs_weak {e : List Expr} {t t' : TGs} (h : PGs X e t) (k : ∀ v Z H Q, t' v Z H Q → t v Z H Q) : PGs X e t' := ⟨fun pins s Z H v u Q I r q => h.run pins s Z H v u Q I r (k v Z H Q q)⟩
theorem ps_weak {e : Stmt} {t t' : TS} (h : PS X e t) (k : ∀ D Z H, t' D Z H → t D Z H) : PS X e t' := ⟨fun pins s Z H D I q => h.run pins s Z H D I (k D Z H q)⟩
theorem pss_weak {e : List Stmt} {t t' : TS} (h : PSs X e t) (k : ∀ D Z H, t' D Z H → t D Z H) : PSs X e t' := ⟨fun pins s Z H D I q => h.run pins s Z H D I (k D Z H q)⟩
theorem pi_weak {tg e : Expr} {t t' : TI} (h : PI X tg e t) (k : ∀ Z H Q, t' Z H Q → t Z H Q) : PI X tg e t' := ⟨fun pins s Z H Q I q => h.run pins s Z H Q I (k Z H Q q)⟩
end
abbrev MTE := Envr → Sto → WQ → XQ → Prop
section
variable (K : PySem.W.Frag) (Wx : WX)
def PostE (σ : Envr) (S : Sto) (Z : L2.St) (H : Hp) (Q : WQ) (QV : VK) : Prop := ∀ w S' v H', Q w S' → Gd K σ S' Z H' → Ext S H S' H' → RepW K H' w v → QV v H'
def PostX (σ : Envr) (S : Sto) (Z : L2.St) (H : Hp) (X : XQ) : Prop := ∀ C S' H', X C S' → Gd K σ S' Z H' → Ext S H S' H' → Wx (.ref C) none Z H'
def liftE (m : MTE) : TE := fun Z H QV => ∃ σ S Q X, Gd K σ S Z H ∧ m σ S Q X ∧ PostE K σ S Z H Q QV ∧ PostX K Wx σ S Z H X
def liftB (m : MTE) : TT := fun Z H QB => ∃ (σ : Envr) (S : Sto) (Q : Bool → Sto → Prop) (X : XQ), Gd K σ S Z H ∧ m σ S (fun w S' => asBl w fun b => Q b S') X ∧ (∀ b S' H', Q b S' → Gd K σ S' Z H' → Ext S H S' H' → QB b H') ∧ PostX K Wx σ S Z H X
def liftA (m : Envr → Sto → (List W → Sto → Prop) → XQ → Prop) : TA := fun Z H QV => ∃ σ S Q X, Gd K σ S Z H ∧ m σ S Q X ∧ (∀ ws S' vs H', Q ws S' → Gd K σ S' Z H' → Ext S H S' H' → RepWs K H' ws vs → QV vs H') ∧ PostX K Wx σ S Z H X
def liftO (m : Envr → Sto → (Option Int → Sto → Prop) → XQ → Prop) : TO := fun Z H QV => ∃ σ S Q X, Gd K σ S Z H ∧ m σ S Q X ∧ (∀ o S' H', Q o S' → Gd K σ S' Z H' → Ext S H S' H' → QV o H') ∧ PostX K Wx σ S Z H X
def liftT (m : Envr → Sto → (List W → Sto → Prop) → XQ → Prop) : TE := fun Z H QV => ∃ σ S Q X, Gd K σ S Z H ∧ m σ S Q X ∧
  (∀ ws S' p vs H', Q ws S' → Gd K σ S' Z H' → Ext S H S' H' → H' p = some (.lst vs) → RepWs K H' ws vs → S' p = none → H p = none → QV (.ref p) H') ∧ PostX K Wx σ S Z H X
def KindAt (H : Hp) (p : Addr) (vs : List V) : LK → Prop
  | .ls => H p = some (.lst vs)
  | .ro => SqL K H p vs
  | .tu => H p = some (.tup vs)
def Rdb (S : Sto) (H : Hp) (ws : List W) (k : LK) (st : Sto → Prop) (v : V) : Prop := st S ∧ ∃ p, v = .ref p ∧ ∀ S2 H2, Ext S H S2 H2 → StOk K S2 H2 → st S2 → ∃ vs, RepWs K H2 ws vs ∧ KindAt K H2 p vs k
def liftL (m : Envr → Sto → LQ → XQ → Prop) : TE := fun Z H QV => ∃ (σ : Envr) (S : Sto) (Q : LQ) (X : XQ), Gd K σ S Z H ∧ m σ S Q X ∧
  (∀ ws k st S' v H', Q ws k st S' → Gd K σ S' Z H' → Ext S H S' H' → Rdb K S' H' ws k st v → QV v H') ∧ PostX K Wx σ S Z H X
def OutEq (sl : List Nat) (Z Z' : L2.St) : Prop := Z'.length = Z.length ∧ ∀ i, i ∉ sl → Z'[i]? = Z[i]?
def liftG (sl : List Nat) (m : W → Envr → Sto → (Envr → Sto → Prop) → XQ → Prop) : TG := fun v Z H QV => ∃ w σ S Q, Gd K σ S Z H ∧ RepW K H w v ∧ m w σ S Q noX ∧
  (∀ σ' S' Z' H', Q σ' S' → Gd K σ' S' Z' H' → Ext S H S' H' → OutEq sl Z Z' → QV Z' H')
def liftGs (sl : List Nat) (m : List W → Envr → Sto → (Envr → Sto → Prop) → XQ → Prop) : TGs := fun vs Z H QV => ∃ ws σ S Q, Gd K σ S Z H ∧ RepWs K H ws vs ∧ m ws σ S Q noX ∧
  (∀ σ' S' Z' H', Q σ' S' → Gd K σ' S' Z' H' → Ext S H S' H' → OutEq sl Z Z' → QV Z' H')
def Walk (S : Sto) (H : Hp) (ws : List W) (st : Sto → Prop) (J : It) : Prop := ∀ S2 H2, Ext S H S2 H2 → StOk K S2 H2 → st S2 →
  (∀ i w, ws[i]? = some w → J.go i H2 ∧ ∀ x H3, J.yld i H2 x H3 → StOk K S2 H3 ∧ Ext S2 H2 S2 H3 ∧ RepW K H3 w x) ∧ J.stop ws.length H2
def liftI (m : Envr → Sto → (List W → (Sto → Prop) → Sto → Prop) → XQ → Prop) : TI := fun Z H R => ∃ (σ : Envr) (S : Sto) (Q : List W → (Sto → Prop) → Sto → Prop) (X : XQ), Gd K σ S Z H ∧ m σ S Q X ∧
  (∀ ws st S' J H', Q ws st S' → Gd K σ S' Z H' → Ext S H S' H' → Walk K S' H' ws st J → R J H') ∧ PostX K Wx σ S Z H X
def liftS (m : MEnds → Envr → Sto → Prop) : TS := fun D Z H => ∃ σ S E, Gd K σ S Z H ∧ m E σ S ∧
  (∀ σ' S' Z' H', E.nx σ' S' → Gd K σ' S' Z' H' → Ext S H S' H' → D.nx Z' H') ∧
  (∀ w S' v H', E.rt w S' → StOk K S' H' → Ext S H S' H' → RepW K H' w v → D.rt v H') ∧
  (∀ σ' S' Z' H', E.bk σ' S' → Gd K σ' S' Z' H' → Ext S H S' H' → D.bk Z' H') ∧
  (∀ σ' S' Z' H', E.ct σ' S' → Gd K σ' S' Z' H' → Ext S H S' H' → D.ct Z' H') ∧
  (∀ σ' C S' Z' H', E.ex σ' C S' → Gd K σ' S' Z' H' → Ext S H S' H' → Wx (.ref C) none Z' H')
def liftSp (m : MSp) : Sp := fun vs H Q E => ∃ ws S MQ MX, RepWs K H ws vs ∧ StOk K S H ∧ m ws S MQ MX ∧
  (∀ w S' v H', MQ w S' → StOk K S' H' → Ext S H S' H' → RepW K H' w v → Q v H') ∧ ∀ C S' H', MX C S' → StOk K S' H' → Ext S H S' H' → E (.ref C) none H'
end
section
variable {K : PySem.W.Frag} {Wx : WX} {σ : Envr} {S S1 S' : Sto} {Z : L2.St} {H H1 H' : Hp}
theorem PostX.next {X : XQ} (p : PostX K Wx σ S Z H X) (x : Ext S H S1 H1) : PostX K Wx σ S1 Z H1 X := fun C S' H' h g e => p C S' H' h g (x.trans e)
theorem PostX.no : PostX K Wx σ S Z H noX := fun _ _ _ h => h.elim
theorem bin_lift {ma mb : MTE} {op : W → W → Sto → WQ → Prop} {r : R2} {QV : VK}
    (hop : ∀ x y S Q vx vy H QV, Gd K σ S Z H → RepW K H x vx → RepW K H y vy → op x y S Q → PostE K σ S Z H Q QV → r vx vy H QV)
    {Q : WQ} {X : XQ} (g : Gd K σ S Z H) (h : ma σ S (fun x S1 => mb σ S1 (fun y S2 => op x y S2 Q) X) X) (p : PostE K σ S Z H Q QV) (px : PostX K Wx σ S Z H X) :
    tOp r (liftE K Wx ma) (liftE K Wx mb) Z H QV := by
  refine ⟨σ, S, _, X, g, h, fun x S1 vx H1 h1 g1 e1 r1 => ?_, px⟩
  refine ⟨σ, S1, _, X, g1, h1, fun y S2 vy H2 h2 g2 e2 r2 => ?_, px.next e1⟩
  exact hop x y S2 Q vx vy H2 QV g2 (e2.rep g1.st r1) r2 h2 fun w S' v H' q g' e' r' => p w S' v H' q g' ((e1.trans e2).trans e') r'
theorem liftB_E {m : MTE} {QB : Bool → Hp → Prop} (h : liftB K Wx m Z H QB) : liftE K Wx m Z H fun v H' => ∃ c, v = .bl c ∧ QB c H' := by
  obtain ⟨σ, S, Q, X, g, hm, p, px⟩ := h
  refine ⟨σ, S, _, X, g, hm, fun w S' v H' q g' e r => ?_, px⟩
  cases w <;> first | exact q.elim | skip
  cases r
  exact ⟨_, rfl, p _ S' H' q g' e⟩
end
def bltNames : List Str := ["len", "max", "min", "range", "zip", "enumerate", "tuple", "list", "sum", "any", "all", "sorted", "set", "isinstance", "int", "bool", "str", "abs", "dict", "ValueError"]
structure ExFacts (X : Cx) (D : Addr) (x : Str) : Prop where
  glo : X.mg x = some (.ref D)
  xin : PySem.W.excIn X.K D He.veBase "ValueError.__new__" = true
  kp : PySem.W.keepIn X.K (.ref D) = true
  bs : PySem.W.subIn X.K (.ref D) (.type "BaseException") = some true
  ty : PySem.W.typeIn X.K (.ref D) = some (.type "type")
  exc : ExcC X.K D
  ve : PySem.W.kitOne X.K (.ref D) (.type "ValueError") = some true
def rIsET (K : PySem.W.Frag) (D a : Addr) : List V → Hp → VK → Prop := fun xs H Q => ∃ (tp : Addr) (cs : List V) (us : List Value) (b : Bool), xs = [.ref a, .ref tp] ∧ H tp = some (.tup cs) ∧ Paired ClsV cs us ∧ PySem.W.kitAny K (.ref D) us = some b ∧ Q (.bl b) H
theorem call_isET {X : Cx} {a D : Addr} {oe : Obj} {pn : List (Addr × Obj)} (C : ExcC X.K D) (hz : Zc (.ref D) none oe) (hf : ∃ vs, oe.data = .fields vs) : CallR (X.suite a ((a, oe) :: pn)) (.builtin "isinstance") (rIsET X.K D a) := by
  intro pins s σ H xs us Q I r h
  obtain ⟨tp, cs, ws, b, rfl, hT, k, e, q⟩ := h
  cases r with
  | cons rx rr =>
    cases rr with
    | cons rt rr =>
      cases rr
      cases rx
      cases rt
      obtain ⟨hget, _⟩ := I.pin (a, oe) (List.mem_append.mpr (.inl List.mem_cons_self))
      obtain ⟨vs, hv⟩ := hf
      have J : PySem.W.InstAt s.heap a oe D none := by
        obtain ⟨oc, od, oda, osl⟩ := oe
        obtain ⟨h1, h2⟩ := hz
        dsimp only at h1 h2 hv
        subst h1 h2 hv
        exact ⟨hget, rfl, rfl, trivial⟩
      obtain ⟨_, its, rv, o, h1, h2, n, h3⟩ := (show ObjOk _ _ H s.heap tp (.tup cs) from I.hok tp _ hT)
      have e3 := ClsV.all k rv
      subst e3
      obtain ⟨oc, od, dt, sl⟩ := o
      simp only at h2 h3
      subst h2 h3
      exact PySem.W.kia_tup (PySem.W.handS_kitx_exc C.hg C.hk C.hs C.hd C.ha C.hn C.ht C.hm) I.kIn J h1 e (fun z => nomatch z) fun tk => ⟨.bl b, H, I.kept (t' := tk) fun _ _ z => z, rfl, q⟩
structure XOk (C : Ctx) (G : Gs) (X : Cx) (Wx : WX) : Prop where
  N : X.N = C.N
  calm : C.hot = false → X.calm = true
  nd : X.N.Nodup
  un : X.A.units + 64 < cLine
  room : C.hot = false → Room 0 X.A
  takes : Takes X Wx
  po : PassesOwn (model X.prog X.w) X.A X.env X.xe
  hxs : C.hot = true → ∃ a n, G.hx = some (a, n)
  mth : ∀ f c m, (f, c, m) ∈ C.mth → C.hot = false → ∃ k fa fd ps, FnOk X.prog X.w X.K X.mg X.base (L2.CX X.prog X.w) k fa fd ps (liftSp X.K (G f)) ∧ Room k X.A ∧ Cls X.K (G.cl c) ∧ Meth X.K (G.cl c) m fa ∧ Binds X.K fd ps []
  mks : ∀ f c x, (f, c, x) ∈ C.mks → C.hot = false → ∃ k fa fd ps, FnOk X.prog X.w X.K X.mg X.base (L2.CX X.prog X.w) k fa fd ps (liftSp X.K (G f)) ∧ Room (k + 1) X.A ∧ Mk X.K (G.cl c) fa ∧ X.mg x = some (.ref (G.cl c)) ∧ Binds X.K fd ps []
  fld : ∀ c f, (c, f) ∈ C.fld → Cls X.K (G.cl c) ∧ NoAttr X.K (G.cl c) f
  exc : ∀ c x, (c, x) ∈ C.exc → ExFacts X (G.cl c) x
  exm : ∀ c x d y, (c, x) ∈ C.exc → (d, y) ∈ C.exc → PySem.W.exmOne X.K (.ref (G.cl c)) (.ref (G.cl d)) = some (subX c d) ∧ PySem.W.kitOne X.K (.ref (G.cl c)) (.ref (G.cl d)) = some (subX c d)
  exs : ∀ n ∈ G.ex, ∃ x, (n, x) ∈ C.exc
  gls : ∀ x k, (x, k) ∈ C.gls → ∃ u, X.mg x = some u ∧ RelV (kV k) u
  hx0 : C.hot = false → G.hx = none
  hx : ∀ a n, G.hx = some (a, n) → (∃ x, (n, x) ∈ C.exc) ∧ CallR X (.builtin "isinstance") (rIsE X.K (G.cl n) a) ∧ CallR X (.builtin "isinstance") (rIsET X.K (G.cl n) a)
  fns : ∀ i x, C.fns.lookup i = some x → C.hot = false → ∃ k f fd ps, FnOk X.prog X.w X.K X.mg X.base (L2.CX X.prog X.w) k f fd ps (liftSp X.K (G i)) ∧ Room k X.A ∧ X.mg x = some (.ref f) ∧ PySem.W.keepIn X.K (.ref f) = true ∧ Binds X.K fd ps []
  blt : ∀ x ∈ bltNames, X.mg x = none
theorem XOk.hu {C : Ctx} {G : Gs} {X : Cx} {Wx : WX} (o : XOk C G X Wx) : X.A.units + 64 < cLine := o.un
structure Snd (X : Cx) (Wx : WX) (e : Expr) (m : MTE) : Prop where
  v : PE X e (liftE X.K Wx m)
  t : PT X e (liftB X.K Wx m)
  w : (∃ op vs p, e = .BoolOp op vs p) → PW X e (liftB X.K Wx m)
section
variable {X : Cx} {Wx : WX}
theorem Snd.plain {e : Expr} {m : MTE} (h : PE X e (liftE X.K Wx m)) (he : ∀ whole, isTrue e X.env whole = (do let v ← whole; standAt e.pos; holding [v] (truthy v))) (hb : ¬ ∃ op vs p, e = .BoolOp op vs p) : Snd X Wx e m :=
  ⟨h, pt_weak (pt_val h he) fun Z H Q q => liftB_E q, fun z => (hb z).elim⟩
theorem Snd.cmp {e : Expr} {m : MTE} {t : TE} (h : PE X e t) (ht : PT X e (tTest t)) (k : ∀ Z H Q, liftE X.K Wx m Z H Q → t Z H Q) (hb : ¬ ∃ op vs p, e = .BoolOp op vs p) : Snd X Wx e m :=
  ⟨pe_weak h k, pt_weak ht fun Z H Q q => k Z H _ (liftB_E q), fun z => (hb z).elim⟩
end
section
variable {K : PySem.W.Frag} {H H' : Hp} {S : Sto} {κ : Type}
theorem RepF.length : ∀ {kvs : List (κ × W)} {vs : List (κ × V)}, RepF K H kvs vs → kvs.length = vs.length
  | [], [], _ => rfl
  | (_, _) :: _, (_, _) :: _, ⟨_, _, t⟩ => by simp [RepF.length t]
  | [], _ :: _, h => h.elim
  | _ :: _, [], h => h.elim
theorem RepF.keys : ∀ {kvs : List (κ × W)} {vs : List (κ × V)}, RepF K H kvs vs → kvs.map (·.1) = vs.map (·.1)
  | [], [], _ => rfl
  | (_, _) :: _, (_, _) :: _, ⟨e, _, t⟩ => by rw [List.map_cons, List.map_cons, RepF.keys t]; exact congrArg (· :: _) e
  | [], _ :: _, h => h.elim
  | _ :: _, [], h => h.elim
variable [DecidableEq κ]
theorem RepF.val {k : κ} : ∀ {kvs : List (κ × W)} {vs : List (κ × V)}, RepF K H kvs vs → (∀ w, valD kvs k = some w → ∃ v, valV vs k = some v ∧ RepW K H w v) ∧ (valD kvs k = none → valV vs k = none)
  | [], [], _ => ⟨fun w e => by simp [valD] at e, fun _ => rfl⟩
  | (k1, w1) :: r, (k2, v1) :: t, ⟨e, rv, rt⟩ => by
    have e' : k1 = k2 := e
    subst e'
    have ih := RepF.val (k := k) rt
    by_cases h : k1 = k
    · subst h
      refine ⟨fun w e => ?_, fun e => ?_⟩
      · have : w1 = w := by simpa [valD] using e
        subst this
        exact ⟨v1, by simp [valV], rv⟩
      · simp [valD] at e
    · have a1 : valD ((k1, w1) :: r) k = valD r k := by unfold valD; rw [List.find?_cons_of_neg (by simpa using h)]
      have a2 : valV ((k1, v1) :: t) k = valV t k := by unfold valV; rw [List.find?_cons_of_neg (by simpa using h)]
      rw [a1, a2]; exact ih
  | [], _ :: _, h => h.elim
  | _ :: _, [], h => h.elim
theorem RepF.any {k : κ} : ∀ {kvs : List (κ × W)} {vs : List (κ × V)}, RepF K H kvs vs → (kvs.any fun kv => decide (kv.1 = k)) = (vs.any fun kv => decide (kv.1 = k))
  | [], [], _ => rfl
  | (_, _) :: _, (_, _) :: _, ⟨e, _, t⟩ => by
    rw [List.any_cons, List.any_cons, RepF.any t]
    have e' := e
    dsimp only at e' ⊢
    rw [e']
  | [], _ :: _, h => h.elim
  | _ :: _, [], h => h.elim
theorem RepF.upd1 {k : κ} {w : W} {v : V} (rw' : RepW K H w v) : ∀ {kvs : List (κ × W)} {vs : List (κ × V)}, RepF K H kvs vs → RepF K H (kvs.map fun kv => if kv.1 = k then (kv.1, w) else kv) (vs.map fun kv => if kv.1 = k then (kv.1, v) else kv)
  | [], [], _ => trivial
  | (k1, w1) :: r, (k2, v1) :: t, ⟨e, rv, rt⟩ => by
    have e' : k1 = k2 := e
    subst e'
    rw [List.map_cons, List.map_cons]
    by_cases h : k1 = k
    · rw [if_pos h, if_pos h]; exact ⟨rfl, rw', RepF.upd1 rw' rt⟩
    · rw [if_neg h, if_neg h]; exact ⟨rfl, rv, RepF.upd1 rw' rt⟩
  | [], _ :: _, h => h.elim
  | _ :: _, [], h => h.elim
theorem RepF.snoc {k : κ} {w : W} {v : V} (rw' : RepW K H w v) : ∀ {kvs : List (κ × W)} {vs : List (κ × V)}, RepF K H kvs vs → RepF K H (kvs ++ [(k, w)]) (vs ++ [(k, v)])
  | [], [], _ => ⟨rfl, rw', trivial⟩
  | (_, _) :: _, (_, _) :: _, ⟨e, rv, rt⟩ => ⟨e, rv, RepF.snoc rw' rt⟩
  | [], _ :: _, h => h.elim
  | _ :: _, [], h => h.elim
theorem RepF.put {k : κ} {w : W} {v : V} (rw' : RepW K H w v) {kvs : List (κ × W)} {vs : List (κ × V)} (h : RepF K H kvs vs) : RepF K H (putD kvs k w) (putK vs k v) := by
  unfold putD putK
  rw [h.any]
  split
  · exact h.upd1 rw'
  · exact h.snoc rw'
theorem RepF.drop {k : κ} : ∀ {kvs : List (κ × W)} {vs : List (κ × V)}, RepF K H kvs vs → RepF K H (dropD kvs k) (dropK vs k)
  | [], [], _ => trivial
  | (k1, w1) :: r, (k2, v1) :: t, ⟨e, rv, rt⟩ => by
    have e' : k1 = k2 := e
    subst e'
    have ih := RepF.drop (k := k) rt
    unfold dropD dropK at ih ⊢
    rw [List.filter_cons, List.filter_cons]
    by_cases h : k1 = k
    · rw [if_neg (by simp [h]), if_neg (by simp [h])]; exact ih
    · rw [if_pos (by simp [h]), if_pos (by simp [h])]; exact ⟨rfl, rv, ih⟩
  | [], _ :: _, h => h.elim
  | _ :: _, [], h => h.elim
end
section
variable {K : PySem.W.Frag} {H H' : Hp} {S : Sto}
theorem FzAt.rd {a : Addr} {u : HO} {b : Bool} (h : FzAt H a u b) : Rd H a u := by
  cases b with
  | false => exact .inl h
  | true => exact .inr h
theorem keyW_rep {w : W} {v : V} {k : Key} (r : RepW K H w v) (h : keyW w = some k) : v = kV k := by
  cases r <;> first | (simp [keyW] at h; done) | (simp only [keyW, Option.some.injEq] at h; subst h; rfl)
theorem keysW_rep : ∀ {ws : List W} {vs : List V} {ks : List Key}, RepWs K H ws vs → keysW ws = some ks → vs = ks.map kV
  | _, _, ks, .nil, h => by simp only [keysW, Option.some.injEq] at h; subst h; rfl
  | _, _, ks, .cons r t, h => by
    simp only [keysW] at h
    split at h
    · rename_i k l e1 e2
      cases h
      rw [keyW_rep r e1, keysW_rep t e2]; rfl
    · cases h
theorem tkeyW_rep {w : W} {v : V} {k : List Key} (r : RepW K H w v) (h : tkeyW w = some k) : ∃ b, v = .ref b ∧ H b = some (.tup (k.map kV)) := by
  cases r <;> first | (simp [tkeyW] at h; done) | skip
  rename_i ws a vs e rs
  simp only [tkeyW] at h
  exact ⟨a, rfl, by rw [e, keysW_rep rs h]⟩
theorem dget_of {a : Addr} {y : W} {vy : V} {w : W} (g : StOk K S H) (ry : RepW K H y vy) (h : idxW (.ref a) y S = some w) (hl : ∀ ws, S a ≠ some (.lst ws)) : ∃ v, DGet H a vy (some v) ∧ RepW K H w v := by
  unfold idxW at h
  dsimp only at h
  split at h
  · rename_i ws e; exact (hl ws e).elim
  · rename_i fz kvs e
    obtain ⟨k, hk, hv⟩ := Option.bind_eq_some_iff.mp h
    obtain ⟨vs, ez, rf⟩ := g _ _ e
    obtain ⟨v, e1, rv⟩ := rf.val.1 w hv
    exact ⟨v, .inl ⟨vs, k, ez.rd, keyW_rep ry hk, e1.symm⟩, rv⟩
  · rename_i fz kvs e
    obtain ⟨k, hk, hv⟩ := Option.bind_eq_some_iff.mp h
    obtain ⟨vs, ez, rf⟩ := g _ _ e
    obtain ⟨v, e1, rv⟩ := rf.val.1 w hv
    obtain ⟨b, e2, e3⟩ := tkeyW_rep ry hk
    exact ⟨v, .inr ⟨vs, k, b, ez.rd, e2, e3, e1.symm⟩, rv⟩
  · cases h
theorem has_of {κ : Type} [DecidableEq κ] {kvs : List (κ × W)} {vs : List (κ × V)} {k : κ} (rf : RepF K H kvs vs) : (valV vs k).isSome = (valD kvs k).isSome := by
  cases e : valD kvs k with
  | none => rw [rf.val.2 e]; rfl
  | some w => obtain ⟨v, e1, _⟩ := rf.val.1 w e; rw [e1]; rfl
end
section
variable {X : Cx}
def rIxD : R2 := fun x y H Q => ∃ a v, x = .ref a ∧ DGet H a y (some v) ∧ Q v H
theorem ix_dict (hu : X.A.units + 1 < cLine) : IxR X rIxD := by
  intro value slice pins s σ H x y v u Q I rx ry h hs
  obtain ⟨a, w, rfl, g, q⟩ := h
  obtain rfl : v = Value.ref a := rx
  have hT := dict_typeIs I g
  unfold subscriptTail
  refine wpAny_bind ?_
  rw [getitemInPython_of_ne hT.not_modules]
  refine wpAny_bind (wpAny_specialOf hT PySem.F.slot_dict_getitem.lookup ?_)
  have fin : wpAny (model X.prog X.w) X.A (subscripted slice false (.ref a) u) (fun r s₃ => wpAny (model X.prog X.w) X.A (letTemporaryGo value (.ref a) r >>= fun _ => pure r) (EP X pins σ Q) X.xe s₃) X.xe s := by
    rw [hs]
    exact wpAny_operating (wpAny_mono (d_getItem hu I g ry fun w' s3 I3 rw' => (⟨w, H, I3, rw', q⟩ : EP X pins σ Q w' s3)) (fun r s₃ h₃ => wpAny_bind (wpAny_letTemporaryGo (wpAny_pure h₃))) fun _ _ x => x)
  first
    | exact wpAny_pure (wpAny_bind fin)
    | exact wpAny_bind (wpAny_pure (wpAny_bind fin))
    | exact wpAny_bind fin
def rInD : R2 := fun y x H Q => ∃ a o, x = .ref a ∧ DGet H a y o ∧ Q (.bl o.isSome) H
def rSgn : R2 := fun x y H Q => ∃ (c : Nat) (z : Str), x = .str ⟨#[c]⟩ ∧ y = .str z ∧ Q (.bl (decide (c ∈ z.cps.toList))) H
def rNSgn : R2 := fun x y H Q => ∃ (c : Nat) (z : Str), x = .str ⟨#[c]⟩ ∧ y = .str z ∧ Q (.bl (!decide (c ∈ z.cps.toList))) H
def rNotInD : R2 := fun y x H Q => ∃ a o, x = .ref a ∧ DGet H a y o ∧ Q (.bl (!o.isSome)) H
theorem op_inD (hu : X.A.units + 1 < cLine) : OpR X (compareOp .In) rInD := by
  intro pins s σ H y x iv u Q I ry rx h
  obtain ⟨a, o, rfl, g, q⟩ := h
  obtain rfl : u = Value.ref a := rx
  exact d_in hu I g ry fun s3 I3 => ⟨.bl o.isSome, H, I3, rfl, q⟩
theorem op_notInD (hu : X.A.units + 1 < cLine) : OpR X (compareOp .NotIn) rNotInD := by
  intro pins s σ H y x iv u Q I ry rx h
  obtain ⟨a, o, rfl, g, q⟩ := h
  obtain rfl : u = Value.ref a := rx
  exact d_notIn hu I g ry fun s3 I3 => ⟨.bl (!o.isSome), H, I3, rfl, q⟩
def rMulS : R2 := fun x y H Q => ∃ z n, x = .str z ∧ y = .int n ∧ (0 ≤ n ∧ n ≤ 1000000) ∧ z.length * n.toNat ≤ 1000000 ∧ Q (.str (Txt.mul z n)) H
theorem op_mulS : OpR X (binaryOp .Mult) rMulS := by
  intro pins s σ H x y v u Q I rx ry h
  obtain ⟨z, n, rfl, rfl, h0, hz, q⟩ := h
  obtain ⟨t, rfl⟩ := rx
  obtain ⟨t2, rfl⟩ := ry
  refine SB.mul ⟨?_, fun h1 _ => ?_, fun h1 _ => ?_⟩ fun t' k => ⟨.str (Txt.mul z n), H, I.tok _, ⟨t', rfl⟩, q⟩
  · rw [decide_eq_false (by omega), decide_eq_false (by omega)]; rfl
  · intro z2
    have hn : 0 < n := by omega
    have e1 := Int.lt_ediv_add_one_mul_self (2 ^ 63 - 1) hn
    have e2 : ((2 ^ 63 - 1) / n + 1) * n ≤ (z.length : Int) * n := Int.mul_le_mul_of_nonneg_right (by omega) (by omega)
    have e3 : (z.length : Int) * n ≤ 1000000 := by
      have : ((z.length * n.toNat : Nat) : Int) ≤ 1000000 := by omega
      rw [Int.natCast_mul, Int.toNat_of_nonneg (by omega)] at this
      exact this
    omega
  · unfold Builtin.Str.tooLong
    rw [decide_eq_false]
    rw [sizeLine_eq]
    omega
theorem PSet.or {r r' : TSet} (h : PSet X r) (h' : PSet X r') : PSet X (fun o i v H Q => r o i v H Q ∨ r' o i v H Q) := by
  intro pins s σ H o i v ov iv u Q I ro ri rv q
  rcases q with q | q
  · exact h pins s σ H o i v ov iv u Q I ro ri rv q
  · exact h' pins s σ H o i v ov iv u Q I ro ri rv q
end
section
variable {K : PySem.W.Frag} {H : Hp}
mutual
theorem RepW.dp : ∀ {w : W} {v : V}, RepW K H w v → w.pure = true → Dp K H v w.dat
  | _, _, .non, _ => .non
  | _, _, .bl b, _ => .bl b
  | _, _, .int i, _ => .int i
  | _, _, .str x, _ => .str x
  | _, _, .ref a, h => by simp [W.pure] at h
  | _, _, .ty n, h => by simp [W.pure] at h
  | _, _, .tup q r, h => .tup (SqT.of q) (RepWs.dp r (by simpa [W.pure] using h))
  | _, _, .rol q r, h => .lst q.sql (RepWs.dp r (by simpa [W.pure] using h))
theorem RepWs.dp : ∀ {ws : List W} {vs : List V}, RepWs K H ws vs → W.pures ws = true → DpAll K H vs (W.dats ws)
  | _, _, .nil, _ => .nil
  | _, _, .cons r t, h => by
    have h' := h
    simp only [W.pures, Bool.and_eq_true] at h'
    exact .cons (RepW.dp r h'.1) (RepWs.dp t h'.2)
end
end
section
variable {X : Cx} {Wx : WX} {K : PySem.W.Frag} {σ : Envr} {S S1 : Sto} {Z : L2.St} {H : Hp}
theorem op_mulX : OpR X (binaryOp .Mult) (rI mulOk fun i j => .int (i * j)) := opI fun i j _ _ _ _ _ hc q => mul_int q (by
  have b : ∀ x : Int, Builtin.Int.intBits x ≤ x.natAbs.log2 + 1 := fun x => by
    unfold Builtin.Int.intBits
    split <;> omega
  have h1 := b i
  have h2 := b j
  have h3 : i.natAbs.log2 + j.natAbs.log2 < 100000000 := hc
  have e : bitsLine = 134217728 := by decide
  unfold IntMulOk
  intro z
  rw [Bool.and_eq_true] at z
  have z2 := z.2
  unfold Builtin.Int.intTooBig at z2
  have z3 := of_decide_eq_true z2
  rw [e] at z3
  omega)
theorem post_tup {Q : WQ} {QV : VK} {a : Addr} {ws : List W} {vs : List V} (p : PostE K σ S Z H Q QV) (g : Gd K σ S Z H) (ha : H a = none) (r : RepWs K H ws vs) (h : Q (.tup ws) S) : QV (.ref a) (upd H a (.tup vs)) :=
  p _ _ _ _ h (g.next (Ext.fresh ha) (g.st.fresh ha)) (Ext.fresh ha) (.tup upd_same ((Ext.fresh (S := S) (o := .tup vs) ha).reps g.st r))
def binR (K : PySem.W.Frag) : BOp → R2
  | .add => fun x y H Q => rI0 (fun i j => .int (i + j)) x y H Q ∨ (∃ i j, x = .str i ∧ y = .str j ∧ i.length + j.length ≤ sizeLine ∧ Q (.str (i ++ j)) H) ∨ rCatA K x y H Q
  | .sub => rI0 fun i j => .int (i - j)
  | .mul => fun x y H Q => rI mulOk (fun i j => .int (i * j)) x y H Q ∨ rMulS x y H Q
  | .fdiv => rI (fun _ j => divOk j) fun i j => .int (i / j)
  | .mod => rI (fun _ j => 0 < j) fun i j => .int (i % j)
  | .pow => rI powOk fun i j => .int (i ^ j.toNat)
theorem binR_ok {op : BOp} {o : Operator} (h : opB op o = true) : OpR X (binaryOp o) (binR X.K op) := by
  cases op <;> cases o <;> first | exact absurd h (by decide) | skip
  · exact op_add.or (op_add_str.or op_catA)
  · exact op_sub
  · exact op_mulX.or op_mulS
  · exact op_fdivW
  · exact op_mod
  · exact op_pow
theorem binR_of {op : BOp} {x y : W} {S : Sto} {Q : WQ} {vx vy : V} {QV : VK} (g : Gd K σ S Z H) (rx : RepW K H x vx) (ry : RepW K H y vy) (h : binW op x y fun z => Q z S) (p : PostE K σ S Z H Q QV) : binR K op vx vy H QV := by
  cases op
  · -- add
    cases x <;> cases y <;> first | exact h.elim | skip
    · cases rx; cases ry
      exact .inl ⟨_, _, rfl, rfl, p _ _ _ _ h g .refl (.int _)⟩
    · cases rx; cases ry
      exact .inr (.inl ⟨_, _, rfl, rfl, h.1, p _ _ _ _ h.2 g .refl (.str _)⟩)
    · cases rx with
      | tup q1 r1 =>
        cases ry with
        | tup q2 r2 =>
          refine .inr (.inr ⟨_, _, _, _, rfl, rfl, SqT.of q1, SqT.of q2, ?_, ?_⟩)
          · have h0 := h.1
            rw [r1.length, r2.length] at h0; exact h0
          · refine ⟨fun e => ?_, fun _ e => ?_, fun _ _ a ha => post_tup p g ha (r1.append r2) h.2⟩
            · subst e; cases r1
              exact p _ _ _ _ h.2 g .refl (.tup q2 r2)
            · subst e; cases r2
              refine p _ _ _ _ h.2 g .refl (.tup q1 ?_)
              rw [List.append_nil]; exact r1
  case mul =>
    cases x <;> cases y <;> first | exact h.elim | skip
    · cases rx; cases ry
      exact .inl ⟨_, _, rfl, rfl, h.1, p _ _ _ _ h.2 g .refl (.int _)⟩
    · cases rx; cases ry
      exact .inr ⟨_, _, rfl, rfl, h.1, h.2.1, p _ _ _ _ h.2.2 g .refl (.str _)⟩
  all_goals
    cases x <;> cases y <;> first | exact h.elim | skip
    cases rx; cases ry
  · exact ⟨_, _, rfl, rfl, p _ _ _ _ h g .refl (.int _)⟩
  · exact ⟨_, _, rfl, rfl, h.1, p _ _ _ _ h.2 g .refl (.int _)⟩
  · exact ⟨_, _, rfl, rfl, h.1, p _ _ _ _ h.2 g .refl (.int _)⟩
  · exact ⟨_, _, rfl, rfl, h.1, p _ _ _ _ h.2 g .refl (.int _)⟩
theorem snd_bin {a b : Expr} {o : Operator} {pos : Pos} {op : BOp} {ma mb : MTE} (hop : opB op o = true) (ha : PE X a (liftE X.K Wx ma)) (hb : PE X b (liftE X.K Wx mb)) :
    Snd X Wx (.BinOp a o b pos) (fun σ S Q E => ma σ S (fun x S1 => mb σ S1 (fun y S2 => binW op x y fun z => Q z S2) E) E) := by
  refine Snd.plain (pe_weak (pe_op (binR_ok hop) ha hb) fun Z H QV ⟨σ, S, Q, E, g, h, p, px⟩ => ?_) (fun _ => rfl) (fun ⟨_, _, _, z⟩ => by cases z)
  exact bin_lift (op := fun x y S Q => binW op x y fun z => Q z S) (fun x y S Q vx vy H QV g rx ry h p => binR_of g rx ry h p) g h p px
theorem snd_neg {a : Expr} {pos : Pos} {ma : MTE} (ha : PE X a (liftE X.K Wx ma)) :
    Snd X Wx (.UnaryOp .USub a pos) (fun σ S Q E => ma σ S (fun x S1 => match x with
    | .int i => Q (.int (-i)) S1
    | _ => False) E) := by
  refine Snd.plain (pe_weak (pe_un un_neg ha) fun Z H QV ⟨σ, S, Q, E, g, h, p, px⟩ => ?_) (fun _ => rfl) (fun ⟨_, _, _, z⟩ => by cases z)
  refine ⟨σ, S, _, E, g, h, fun w S' v H' q g' e r => ?_, px⟩
  cases w <;> first | exact q.elim | skip
  cases r
  exact ⟨_, rfl, p _ _ _ _ q g' e (.int _)⟩
theorem snd_var {x : Str} {i : Nat} {pos : Pos} (hN : X.N[i]? = some x) (hv : Vis X.env.scope x) (hd : plainNm x = true) :
    Snd X Wx (.Name x pos) (fun σ S Q _ => match getv σ i with
    | some w => Q w S
    | none => False) := by
  have hd' := hd
  simp only [plainNm, Bool.and_eq_true, Bool.not_eq_true'] at hd'
  refine Snd.plain (pe_weak (pe_var hN hv hd'.1 hd'.2) fun Z H QV ⟨σ, S, Q, E, g, h, p, px⟩ => ?_) (fun _ => rfl) (fun ⟨_, _, _, z⟩ => by cases z)
  unfold getv at h
  dsimp only at h
  cases e : σ[i]? with
  | none => rw [e] at h; exact h.elim
  | some o =>
    cases o with
    | none => rw [e] at h; exact h.elim
    | some w =>
      rw [e] at h
      obtain ⟨v, hz, r⟩ := g.sl i w e
      exact ⟨v, hz, p _ _ _ _ h g .refl r⟩
theorem pe_fold {e : Expr} : ∀ {i : Int}, foldC e = some i → PE X e (tC (.int i)) := by
  induction e using foldC.induct with
  | case1 j k pos => intro i h; simp only [foldC, Option.some.injEq] at h; subst h; exact pe_int
  | case2 a pos ih =>
    intro i h
    simp only [foldC] at h
    cases ea : foldC a with
    | none => rw [ea] at h; cases h
    | some j =>
      rw [ea] at h; cases h
      exact pe_weak (pe_un un_neg (ih ea)) fun Z H Q q => ⟨_, rfl, q⟩
  | case3 a b pos i j ea eb iha ihb => intro k h; simp only [foldC, ea, eb] at h; cases h; exact pe_weak (pe_op op_add (iha eb) (ihb ea)) fun Z H Q q => ⟨_, _, rfl, rfl, q⟩
  | case4 a b pos i j ea eb iha ihb => intro k h; simp only [foldC, ea, eb] at h; cases h; exact pe_weak (pe_op op_sub (iha eb) (ihb ea)) fun Z H Q q => ⟨_, _, rfl, rfl, q⟩
  | case5 a b pos i j ea eb hj iha ihb => intro k h; simp only [foldC, ea, eb, if_pos hj] at h; cases h; exact pe_weak (pe_op op_mul (iha eb) (ihb ea)) fun Z H Q q => ⟨_, _, rfl, rfl, .inl (by omega), q⟩
  | case6 a b pos i j ea eb hj iha ihb => intro k h; simp only [foldC, ea, eb, if_neg hj] at h; cases h
  | case7 a b pos i j ea eb hj iha ihb => intro k h; simp only [foldC, ea, eb, if_pos hj] at h; cases h; exact pe_weak (pe_op op_pow (iha eb) (ihb ea)) fun Z H Q q => ⟨_, _, rfl, rfl, ⟨hj.1, by omega, hj.2.2⟩, q⟩
  | case8 a b pos i j ea eb hj iha ihb => intro k h; simp only [foldC, ea, eb, if_neg hj] at h; cases h
  | case9 a op b pos i j ea eb h1 h2 h3 h4 iha ihb => intro k h; cases op <;> first | (simp only [foldC, ea, eb] at h; cases h; done) | (exact absurd rfl h1) | (exact absurd rfl h2) | (exact absurd rfl h3) | (exact absurd rfl h4)
  | case10 a op b pos ea iha ihb => intro k h; simp only [foldC] at h; cases h
  | case11 e h1 h2 h3 => intro i h; simp only [foldC] at h; cases h
theorem snd_cst {e : Expr} {w : W} (hc : cstB w e = true) : Snd X Wx e (fun _ S Q _ => Q w S) := by
  have int : ∀ {e : Expr} {i : Int}, foldC e = some i → Snd X Wx e (fun _ S Q _ => Q (.int i) S) := fun {e i} h =>
    Snd.plain (pe_weak (pe_fold h) fun Z H QV ⟨σ, S, Q, E, g, q, p, px⟩ => p _ _ _ _ q g .refl (.int _)) (by
      intro wh; cases e <;> first | rfl | (simp only [foldC] at h; cases h; done) | (rename_i op _ _; cases op <;> first | rfl | (simp [foldC] at h; done))) (by
      rintro ⟨op, vs, p, rfl⟩; simp only [foldC] at h; cases h)
  cases w with
  | int i => exact int (by cases e <;> first | simpa [cstB] using hc | (rename_i c _ _; cases c <;> first | simpa [cstB] using hc | (simp [cstB] at hc)))
  | non =>
    cases e <;> first | (simp [cstB] at hc; done) | skip
    rename_i c k pos
    cases c <;> first | (simp [cstB] at hc; done) | skip
    exact Snd.plain (pe_weak pe_non fun Z H QV ⟨σ, S, Q, E, g, q, p, px⟩ => p _ _ _ _ q g .refl .non) (fun _ => rfl) (fun ⟨_, _, _, z⟩ => by cases z)
  | bl b =>
    cases e <;> first | (simp [cstB] at hc; done) | skip
    rename_i c k pos
    cases c <;> first | (simp [cstB] at hc; done) | skip
    simp only [cstB, beq_iff_eq] at hc; subst hc
    exact Snd.plain (pe_weak pe_bl fun Z H QV ⟨σ, S, Q, E, g, q, p, px⟩ => p _ _ _ _ q g .refl (.bl _)) (fun _ => rfl) (fun ⟨_, _, _, z⟩ => by cases z)
  | str x =>
    cases e <;> first | (simp [cstB] at hc; done) | skip
    rename_i c k pos
    cases c <;> first | (simp [cstB] at hc; done) | skip
    simp only [cstB, decide_eq_true_eq] at hc; subst hc
    exact Snd.plain (pe_weak pe_str fun Z H QV ⟨σ, S, Q, E, g, q, p, px⟩ => p _ _ _ _ q g .refl (.str _)) (fun _ => rfl) (fun ⟨_, _, _, z⟩ => by cases z)
  | ref a => cases e <;> first | (simp [cstB] at hc; done) | (rename_i c k pos; cases c <;> (simp [cstB] at hc; done))
  | ty a => cases e <;> first | (simp [cstB] at hc; done) | (rename_i c k pos; cases c <;> (simp [cstB] at hc; done))
  | tup a => cases e <;> first | (simp [cstB] at hc; done) | (rename_i c k pos; cases c <;> (simp [cstB] at hc; done))
  | rol a => cases e <;> first | (simp [cstB] at hc; done) | (rename_i c k pos; cases c <;> (simp [cstB] at hc; done))
end
section
variable {X : Cx} {Wx : WX} {K : PySem.W.Frag} {σ : Envr} {S S1 : Sto} {Z : L2.St} {H : Hp}
variable {a b c : Expr} {pos : Pos} {ma mb mc : MTE}
def cmpR (K : PySem.W.Frag) : COp → R2
  | .eq => rEqD K
  | .ne => rNeD K
  | .lt => rI0 fun i j => .bl (decide (i < j))
  | .le => rI0 fun i j => .bl (decide (i ≤ j))
  | .gt => rI0 fun i j => .bl (decide (j < i))
  | .ge => rI0 fun i j => .bl (decide (j ≤ i))
theorem cmpR_ok {op : COp} {o : CmpOp} (h : copB op o = true) (hu : X.A.units + 64 < cLine) : OpR X (compareOp o) (cmpR X.K op) := by
  cases op <;> cases o <;> first | exact absurd h (by decide) | skip
  · exact op_lt
  · exact op_le
  · exact op_gt
  · exact op_ge
  · exact op_eqD hu
  · exact op_neD hu
theorem cmp_mark {op : COp} {o : CmpOp} (h : copB op o = true) : behindInMarks o b = false := by
  cases op <;> cases o <;> first | exact absurd h (by decide) | exact nomark _
theorem cmpR_of {op : COp} {x y : W} {S : Sto} {Q : Bool → Sto → Prop} {vx vy : V} {QV : VK} (rx : RepW K H x vx) (ry : RepW K H y vy) (h : cmpW op x y fun z => Q z S) (p : ∀ b, Q b S → QV (.bl b) H) : cmpR K op vx vy H QV := by
  cases op
  case eq => obtain ⟨h1, h2, h3⟩ := h; exact ⟨_, _, rx.dp h1.1, ry.dp h2.1, h1.2, h2.2, p _ h3⟩
  case ne => obtain ⟨h1, h2, h3⟩ := h; exact ⟨_, _, rx.dp h1.1, ry.dp h2.1, h1.2, h2.2, p _ h3⟩
  all_goals
    cases x <;> cases y <;> first | exact h.elim | skip
    cases rx; cases ry
    exact ⟨_, _, rfl, rfl, p _ h⟩
theorem snd_cmp {o : CmpOp} {op : COp} (hop : copB op o = true) (hu : X.A.units + 64 < cLine) (ha : PE X a (liftE X.K Wx ma)) (hb : PE X b (liftE X.K Wx mb)) :
    Snd X Wx (.Compare a [o] [b] pos) (fun σ S Q E => ma σ S (fun x S1 => mb σ S1 (fun y S2 => cmpW op x y fun z => Q (.bl z) S2) E) E) := by
  refine Snd.cmp (pe_cmpR (cmpR_ok hop hu) ha hb (cmp_mark hop)) (pt_cmpR (cmpR_ok hop hu) ha hb (cmp_mark hop)) (fun Z H QV ⟨σ, S, Q, E, g, h, p, px⟩ => ?_) (fun ⟨_, _, _, z⟩ => by cases z)
  exact bin_lift (op := fun x y S Q => cmpW op x y fun z => Q (.bl z) S) (fun x y S Q vx vy H QV g rx ry h p => cmpR_of (Q := fun z S => Q (.bl z) S) rx ry h fun b q => p _ _ _ _ q g .refl (.bl _)) g h p px
theorem chain_mark {o o' : CmpOp} {op op' : COp} (h : copB op o = true) (h' : copB op' o' = true) : lastMarks [o, o'] [b, c] = false := by
  show behindInMarks o' c = false
  exact cmp_mark h'
theorem snd_chn {o o' : CmpOp} {op op' : COp} (hop : copB op o = true) (hop' : copB op' o' = true) (hu : X.A.units + 64 < cLine) (ha : PE X a (liftE X.K Wx ma)) (hb : PE X b (liftE X.K Wx mb)) (hc : PE X c (liftE X.K Wx mc)) :
    Snd X Wx (.Compare a [o, o'] [b, c] pos) (fun σ S Q E => ma σ S (fun x S1 => mb σ S1 (fun y S2 => cmpW op x y fun z =>
      if z = true then mc σ S2 (fun u S3 => cmpW op' y u fun z => Q (.bl z) S3) E else Q (.bl false) S2) E) E) := by
  refine Snd.cmp (pe_chain (cmpR_ok hop hu) (cmpR_ok hop' hu) ha hb hc (chain_mark hop hop')) (pt_chain (cmpR_ok hop hu) (cmpR_ok hop' hu) ha hb hc (chain_mark hop hop')) (fun Z H QV ⟨σ, S, Q, E, g, h, p, px⟩ => ?_) (fun ⟨_, _, _, z⟩ => by cases z)
  refine ⟨σ, S, _, E, g, h, fun x S1 vx H1 h1 g1 e1 r1 => ?_, px⟩
  refine ⟨σ, S1, _, E, g1, h1, fun y S2 vy H2 h2 g2 e2 r2 => ?_, px.next e1⟩
  refine cmpR_of (Q := fun z S2 => if z = true then mc σ S2 (fun u S3 => cmpW op' y u fun z => Q (.bl z) S3) E else Q (.bl false) S2) (e2.rep g1.st r1) r2 h2 fun z q => ⟨z, rfl, ?_⟩
  cases z with
  | false => exact iteF (p _ _ _ _ (by simpa using q) g2 (e1.trans e2) (.bl _))
  | true =>
    have q' : mc σ S2 (fun u S3 => cmpW op' y u fun z => Q (.bl z) S3) E := by simpa using q
    refine iteT ⟨σ, S2, _, E, g2, q', fun u S3 vu H3 h3 g3 e3 r3 => ?_, px.next (e1.trans e2)⟩
    exact cmpR_of (Q := fun z S => Q (.bl z) S) (e3.rep g2.st r2) r3 h3 fun b q => p _ _ _ _ q g3 ((e1.trans e2).trans e3) (.bl _)
theorem isNon_rep {w : W} {v : V} (r : RepW K H w v) : decide (v = .non) = isNon w := by
  cases r <;> rfl
theorem snd_isN {o : CmpOp} {k : Bool} {j : Nat} {p2 : Pos} (hk : (match o with | .Is => k | .IsNot => !k | _ => false) = true) (ha : PE X a (liftE X.K Wx ma)) :
    Snd X Wx (.Compare a [o] [.Constant .none j p2] pos) (fun σ S Q E => ma σ S (fun x S1 => Q (.bl (isNon x == k)) S1) E) := by
  cases o <;> first | (simp at hk; done) | skip
  · have hk' : k = true := hk
    subst hk'
    refine Snd.cmp (pe_cmp (pc_isN ha)) (pt_cmp (pc_isN ha)) (fun Z H QV ⟨σ, S, Q, E, g, h, p, px⟩ => ?_) (fun ⟨_, _, _, z⟩ => by cases z)
    refine ⟨σ, S, _, E, g, h, fun x S1 vx H1 h1 g1 e1 r1 => ?_, px⟩
    dsimp only
    rw [isNon_rep r1]
    refine p _ _ _ _ ?_ g1 e1 (.bl _)
    cases e : isNon x <;> simpa [e] using h1
  · have hk' : k = false := by simpa using hk
    subst hk'
    refine Snd.cmp (pe_cmp (pc_notN ha)) (pt_cmp (pc_notN ha)) (fun Z H QV ⟨σ, S, Q, E, g, h, p, px⟩ => ?_) (fun ⟨_, _, _, z⟩ => by cases z)
    refine ⟨σ, S, _, E, g, h, fun x S1 vx H1 h1 g1 e1 r1 => ?_, px⟩
    dsimp only
    rw [isNon_rep r1]
    refine p _ _ _ _ ?_ g1 e1 (.bl _)
    cases e : isNon x <;> simpa [e] using h1
theorem snd_isB {o : CmpOp} {k d : Bool} {j : Nat} {p2 : Pos} (hk : (match o with | .Is => k | .IsNot => !k | _ => false) = true) (ha : PE X a (liftE X.K Wx ma)) :
    Snd X Wx (.Compare a [o] [.Constant (.bool d) j p2] pos) (fun σ S Q E => ma σ S (fun x S1 => asBl x fun c => Q (.bl ((c == d) == k)) S1) E) := by
  cases o <;> first | (simp at hk; done) | skip
  · have hk' : k = true := hk
    subst hk'
    refine Snd.cmp (pe_cmpR op_is_bl ha pe_bl (nomark _)) (pt_cmpR op_is_bl ha pe_bl (nomark _)) (fun Z H QV ⟨σ, S, Q, E, g, h, p, px⟩ => ?_) (fun ⟨_, _, _, z⟩ => by cases z)
    refine ⟨σ, S, _, E, g, h, fun x S1 vx H1 h1 g1 e1 r1 => ?_, px⟩
    cases x <;> first | exact h1.elim | skip
    cases r1
    refine ⟨_, _, rfl, rfl, p _ _ _ _ ?_ g1 e1 (.bl _)⟩
    rename_i z
    cases z <;> cases d <;> exact h1
  · have hk' : k = false := by simpa using hk
    subst hk'
    refine Snd.cmp (pe_cmpR op_isnot_bl ha pe_bl (nomark _)) (pt_cmpR op_isnot_bl ha pe_bl (nomark _)) (fun Z H QV ⟨σ, S, Q, E, g, h, p, px⟩ => ?_) (fun ⟨_, _, _, z⟩ => by cases z)
    refine ⟨σ, S, _, E, g, h, fun x S1 vx H1 h1 g1 e1 r1 => ?_, px⟩
    cases x <;> first | exact h1.elim | skip
    cases r1
    refine ⟨_, _, rfl, rfl, p _ _ _ _ ?_ g1 e1 (.bl _)⟩
    rename_i z
    cases z <;> cases d <;> exact h1
theorem flat_rep {w : W} {v : V} (r : RepW K H w v) (h : w.flat = true) : flatV v = true := by
  cases r <;> first | rfl | (simp [W.flat] at h)
theorem flEq_rep {w u : W} {v x : V} (r : RepW K H w v) (q : RepW K H u x) (h : w.flat = true) (h' : u.flat = true) : flEq w u = eqV v x := by
  cases r <;> cases q <;> first | rfl | (simp [W.flat] at h; done) | (simp [W.flat] at h'; done)
theorem flats_rep : ∀ {ws : List W} {vs : List V}, RepWs K H ws vs → ws.all W.flat = true → vs.all flatV = true
  | _, _, .nil, _ => rfl
  | _, _, .cons r t, h => by
    simp only [List.all_cons, Bool.and_eq_true] at h ⊢
    exact ⟨flat_rep r h.1, flats_rep t h.2⟩
theorem any_rep {x : W} {vx : V} (rx : RepW K H x vx) (hx : x.flat = true) : ∀ {ws : List W} {vs : List V}, RepWs K H ws vs → ws.all W.flat = true → (ws.any fun z => flEq z x) = inV vx vs
  | _, _, .nil, _ => rfl
  | _, _, .cons r t, h => by
    simp only [List.all_cons, Bool.and_eq_true] at h
    have e := any_rep rx hx t h.2
    unfold inV at e ⊢
    rw [List.any_cons, List.any_cons, e, flEq_rep r rx h.1 hx]
theorem inWs_rep {x : W} {vx : V} {ws : List W} {vs : List V} {Q : Bool → Prop} (rx : RepW K H x vx) (r : RepWs K H ws vs) (h : inWs x ws Q) : flatV vx = true ∧ vs.all flatV = true ∧ Q (inV vx vs) := by
  obtain ⟨h1, h2, h3⟩ := h
  refine ⟨flat_rep rx h1, flats_rep r h2, ?_⟩
  rw [any_rep rx h1 r h2] at h3; exact h3
theorem inR_of {x y : W} {vx vy : V} {Q : Bool → Sto → Prop} {k : Bool} {QV : VK} (hn : ∀ {a fz kvs}, y = .ref a → S a ≠ some (.dk fz kvs)) (hn2 : ∀ {a fz kvs}, y = .ref a → S a ≠ some (.dt fz kvs)) (hs : ∀ z, y ≠ .str z) (g : Gd K σ S Z H) (rx : RepW K H x vx) (ry : RepW K H y vy) (h : inW x y (fun z => Q z S) S) (p : ∀ b, Q b S → QV (.bl (if k then !b else b)) H) : rIn K k vx vy H QV := by
  have go : ∀ {ws : List W} {vs : List V}, RepWs K H ws vs → inWs x ws (fun z => Q z S) → flatV vx = true ∧ vs.all flatV = true ∧ QV (.bl (if k then !inV vx vs else inV vx vs)) H := fun r q => by
    obtain ⟨h1, h2, h3⟩ := inWs_rep rx r q
    exact ⟨h1, h2, p _ h3⟩
  cases y <;> first | exact h.elim | skip
  · exact (hs _ rfl).elim
  · rename_i ad
    cases ry
    unfold inW at h
    dsimp only at h
    cases e : S ad with
    | none => rw [e] at h; exact h.elim
    | some o =>
      cases o with
      | lst ws =>
        rw [e] at h
        obtain ⟨vs, e1, r⟩ := g.st _ _ e
        exact ⟨_, _, rfl, .inl (SqL.of e1), go r h⟩
      | ins C fs => rw [e] at h; exact h.elim
      | dk fz kvs => exact (hn rfl e).elim
      | dt fz kvs => exact (hn2 rfl e).elim
  · cases ry with
    | tup q r => exact ⟨_, _, rfl, .inr (SqT.of q), go r h⟩
  · cases ry with
    | rol q r => exact ⟨_, _, rfl, .inl q.sql, go r h⟩
theorem inD_of {x y : W} {vx vy : V} {Q : Bool → Sto → Prop} (g : Gd K σ S Z H) (rx : RepW K H x vx) (ry : RepW K H y vy) (h : inW x y (fun z => Q z S) S) :
    ((∀ {a fz kvs}, y = .ref a → S a ≠ some (.dk fz kvs)) ∧ (∀ {a fz kvs}, y = .ref a → S a ≠ some (.dt fz kvs)) ∧ ∀ z, y ≠ .str z) ∨
    (∃ a o, vy = .ref a ∧ DGet H a vx o ∧ Q o.isSome S) ∨ ∃ c z, vx = .str ⟨#[c]⟩ ∧ vy = .str z ∧ Q (decide (c ∈ z.cps.toList)) S := by
  cases y with
  | ref a =>
    cases ry
    cases e : S a with
    | none => exact .inl ⟨(fun z => by cases z; rw [e]; exact fun z => by cases z), (fun z => by cases z; rw [e]; exact fun z => by cases z), (fun _ z => by cases z)⟩
    | some o =>
      cases o with
      | lst ws => exact .inl ⟨(fun z => by cases z; rw [e]; exact fun z => by cases z), (fun z => by cases z; rw [e]; exact fun z => by cases z), (fun _ z => by cases z)⟩
      | ins C fs => exact .inl ⟨(fun z => by cases z; rw [e]; exact fun z => by cases z), (fun z => by cases z; rw [e]; exact fun z => by cases z), (fun _ z => by cases z)⟩
      | dk fz kvs =>
        unfold inW at h
        dsimp only at h
        rw [e] at h
        dsimp only at h
        unfold hasD at h
        split at h
        · rename_i k hk
          obtain ⟨vs, ez, rf⟩ := g.st _ _ e
          refine .inr (.inl ⟨a, valV vs k, rfl, .inl ⟨vs, k, ez.rd, keyW_rep rx hk, rfl⟩, ?_⟩)
          rw [has_of rf]; exact h
        · exact h.elim
      | dt fz kvs =>
        unfold inW at h
        dsimp only at h
        rw [e] at h
        dsimp only at h
        unfold hasD at h
        split at h
        · rename_i k hk
          obtain ⟨vs, ez, rf⟩ := g.st _ _ e
          obtain ⟨b, e2, e3⟩ := tkeyW_rep rx hk
          refine .inr (.inl ⟨a, valV vs k, rfl, .inr ⟨vs, k, b, ez.rd, e2, e3, rfl⟩, ?_⟩)
          rw [has_of rf]; exact h
        · exact h.elim
  | str z =>
    cases ry
    cases x <;> first | exact h.elim | skip
    cases rx
    obtain ⟨d, rfl, q⟩ := h
    exact .inr (.inr ⟨d, z, rfl, rfl, q⟩)
  | _ => exact .inl ⟨fun z => (by cases z), fun z => (by cases z), fun _ z => by cases z⟩
theorem snd_inn {o : CmpOp} {k : Bool} (hu : X.A.units + 1 < cLine) (hk : (match o with | .In => k | .NotIn => !k | _ => false) = true) (hm : noMark o b = true) (ha : PE X a (liftE X.K Wx ma)) (hb : PE X b (liftE X.K Wx mb)) :
    Snd X Wx (.Compare a [o] [b] pos) (fun σ S Q E => ma σ S (fun x S1 => mb σ S1 (fun y S2 => inW x y (fun z => Q (.bl (z == k)) S2) S2) E) E) := by
  have hm' : behindInMarks o b = false := by simpa [noMark] using hm
  cases o <;> first | (simp at hk; done) | skip
  · have hk' : k = true := hk
    subst hk'
    have op := op_in_seq.or ((op_inD hu).or (show OpR X (compareOp .In) rSgn from op_in_sign))
    refine Snd.cmp (pe_cmpR op ha hb hm') (pt_cmpR op ha hb hm') (fun Z H QV ⟨σ, S, Q, E, g, h, p, px⟩ => ?_) (fun ⟨_, _, _, z⟩ => by cases z)
    refine bin_lift (op := fun x y S Q => inW x y (fun z => Q (.bl (z == true)) S) S) (fun x y S Q vx vy H QV g rx ry h p => ?_) g h p px
    have h' : inW x y (fun z => Q (.bl z) S) S := by
      have e : (fun z : Bool => Q (.bl (z == true)) S) = fun z => Q (.bl z) S := funext fun z => by cases z <;> rfl
      rw [e] at h; exact h
    rcases inD_of (Q := fun z S => Q (.bl z) S) g rx ry h' with ⟨n1, n2, n3⟩ | ⟨a, o, e, dg, q⟩ | ⟨c, z, e1, e2, q⟩
    · exact .inl (inR_of (k := false) (Q := fun z S => Q (.bl z) S) n1 n2 n3 g rx ry h' fun b q => p _ _ _ _ q g .refl (.bl _))
    · exact .inr (.inl ⟨a, o, e, dg, p _ _ _ _ q g .refl (.bl _)⟩)
    · exact .inr (.inr ⟨c, z, e1, e2, p _ _ _ _ q g .refl (.bl _)⟩)
  · have hk' : k = false := by simpa using hk
    subst hk'
    have op := op_notIn_seq.or ((op_notInD hu).or (show OpR X (compareOp .NotIn) rNSgn from op_notIn_sign))
    refine Snd.cmp (pe_cmpR op ha hb hm') (pt_cmpR op ha hb hm') (fun Z H QV ⟨σ, S, Q, E, g, h, p, px⟩ => ?_) (fun ⟨_, _, _, z⟩ => by cases z)
    refine bin_lift (op := fun x y S Q => inW x y (fun z => Q (.bl (z == false)) S) S) (fun x y S Q vx vy H QV g rx ry h p => ?_) g h p px
    have h' : inW x y (fun z => Q (.bl (!z)) S) S := by
      have e : (fun z : Bool => Q (.bl (z == false)) S) = fun z => Q (.bl (!z)) S := funext fun z => by cases z <;> rfl
      rw [e] at h; exact h
    rcases inD_of (Q := fun z S => Q (.bl (!z)) S) g rx ry h' with ⟨n1, n2, n3⟩ | ⟨a, o, e, dg, q⟩ | ⟨c, z, e1, e2, q⟩
    · exact .inl (inR_of (k := true) (Q := fun z S => Q (.bl (!z)) S) n1 n2 n3 g rx ry h' fun b q => p _ _ _ _ q g .refl (.bl _))
    · exact .inr (.inl ⟨a, o, e, dg, p _ _ _ _ q g .refl (.bl _)⟩)
    · exact .inr (.inr ⟨c, z, e1, e2, p _ _ _ _ q g .refl (.bl _)⟩)
theorem snd_and {y : Expr} {rest : List Expr} {p2 : Pos} (ha : Snd X Wx a ma) (hv : PE X (.BoolOp .And (y :: rest) pos) (liftE X.K Wx mb)) (hw : PW X (.BoolOp .And (y :: rest) pos) (liftB X.K Wx mb)) :
    Snd X Wx (.BoolOp .And (a :: y :: rest) pos) (fun σ S Q E => ma σ S (fun x S1 => asBl x fun c => if c = true then mb σ S1 Q E else Q (.bl false) S1) E) := by
  have w : PW X (.BoolOp .And (a :: y :: rest) pos) (liftB X.K Wx fun σ S Q E => ma σ S (fun x S1 => asBl x fun c => if c = true then mb σ S1 Q E else Q (.bl false) S1) E) := by
    refine pw_weak (pw_and ha.t hw) fun Z H QB ⟨σ, S, Q, E, g, h, p, px⟩ => ?_
    refine ⟨σ, S, fun c S1 => if c = true then mb σ S1 (fun w S' => asBl w fun b => Q b S') E else Q false S1, E, g, h, fun c S1 H1 h1 g1 e1 => ?_, px⟩
    cases c with
    | false => exact iteF (p _ _ _ (by simpa using h1) g1 e1)
    | true => exact iteT ⟨σ, S1, Q, E, g1, by simpa using h1, fun b S' H' q g' e' => p b S' H' q g' (e1.trans e'), px.next e1⟩
  refine ⟨pe_weak (pe_and ha.v hv) fun Z H QV ⟨σ, S, Q, E, g, h, p, px⟩ => ?_, w.pt, fun _ => w⟩
  refine ⟨σ, S, _, E, g, h, fun x S1 vx H1 h1 g1 e1 r1 => ?_, px⟩
  cases x <;> first | exact h1.elim | skip
  rename_i c
  cases r1
  refine ⟨c, rfl, ?_⟩
  cases c with
  | false => exact iteF (p _ _ _ _ h1 g1 e1 (.bl _))
  | true => exact iteT ⟨σ, S1, Q, E, g1, h1, fun w S' v H' q g' e' r' => p w S' v H' q g' (e1.trans e') r', px.next e1⟩
theorem snd_or {y : Expr} {rest : List Expr} {p2 : Pos} (ha : Snd X Wx a ma) (hv : PE X (.BoolOp .Or (y :: rest) pos) (liftE X.K Wx mb)) (hw : PW X (.BoolOp .Or (y :: rest) pos) (liftB X.K Wx mb)) :
    Snd X Wx (.BoolOp .Or (a :: y :: rest) pos) (fun σ S Q E => ma σ S (fun x S1 => asBl x fun c => if c = true then Q (.bl true) S1 else mb σ S1 Q E) E) := by
  have w : PW X (.BoolOp .Or (a :: y :: rest) pos) (liftB X.K Wx fun σ S Q E => ma σ S (fun x S1 => asBl x fun c => if c = true then Q (.bl true) S1 else mb σ S1 Q E) E) := by
    refine pw_weak (pw_or ha.t hw) fun Z H QB ⟨σ, S, Q, E, g, h, p, px⟩ => ?_
    refine ⟨σ, S, fun c S1 => if c = true then Q true S1 else mb σ S1 (fun w S' => asBl w fun b => Q b S') E, E, g, h, fun c S1 H1 h1 g1 e1 => ?_, px⟩
    cases c with
    | true => exact iteT (p _ _ _ (by simpa using h1) g1 e1)
    | false => exact iteF ⟨σ, S1, Q, E, g1, by simpa using h1, fun b S' H' q g' e' => p b S' H' q g' (e1.trans e'), px.next e1⟩
  refine ⟨pe_weak (pe_or ha.v hv) fun Z H QV ⟨σ, S, Q, E, g, h, p, px⟩ => ?_, w.pt, fun _ => w⟩
  refine ⟨σ, S, _, E, g, h, fun x S1 vx H1 h1 g1 e1 r1 => ?_, px⟩
  cases x <;> first | exact h1.elim | skip
  rename_i c
  cases r1
  refine ⟨c, rfl, ?_⟩
  cases c with
  | true => exact iteT (p _ _ _ _ h1 g1 e1 (.bl _))
  | false => exact iteF ⟨σ, S1, Q, E, g1, h1, fun w S' v H' q g' e' r' => p w S' v H' q g' (e1.trans e') r', px.next e1⟩
theorem Snd.one {op : BoolOp} (h : Snd X Wx a ma) : PE X (.BoolOp op [a] pos) (liftE X.K Wx ma) ∧ PW X (.BoolOp op [a] pos) (liftB X.K Wx ma) := by
  refine ⟨pe_one h.v, ?_⟩
  cases op with
  | And => exact pw_and1 h.t
  | Or => exact pw_or1 h.t
theorem snd_not (ha : Snd X Wx a ma) : Snd X Wx (.UnaryOp .Not a pos) (fun σ S Q E => ma σ S (fun x S1 => asBl x fun c => Q (.bl (!c)) S1) E) := by
  refine ⟨pe_weak (pe_not ha.v) fun Z H QV ⟨σ, S, Q, E, g, h, p, px⟩ => ?_, pt_weak (pt_not ha.t) fun Z H QB ⟨σ, S, Q, E, g, h, p, px⟩ => ?_, fun ⟨_, _, _, z⟩ => by cases z⟩
  · refine ⟨σ, S, _, E, g, h, fun x S1 vx H1 h1 g1 e1 r1 => ?_, px⟩
    cases x <;> first | exact h1.elim | skip
    cases r1
    exact ⟨_, rfl, p _ _ _ _ h1 g1 e1 (.bl _)⟩
  · exact ⟨σ, S, fun c S1 => Q (!c) S1, E, g, h, fun c S1 H1 h1 g1 e1 => p _ _ _ h1 g1 e1, px⟩
theorem pt_ite {tc ta tb : TT} (hc : PT X c tc) (ha : PT X a ta) (hb : PT X b tb) : PT X (.IfExp c a b pos) (fun Z H Q => tc Z H fun k H1 => if k = true then ta Z H1 Q else tb Z H1 Q) := by
  refine ⟨fun pins s σ H Q I h => ?_⟩
  refine isTrue_IfExp (thn (hc.run pins s σ H _ I h) fun d s1 ⟨H1, I1, q1⟩ => ?_)
  cases d with
  | true => exact ha.run pins s1 σ H1 Q I1 q1
  | false => exact hb.run pins s1 σ H1 Q I1 q1
theorem snd_ite (hc : Snd X Wx c mc) (ha : Snd X Wx a ma) (hb : Snd X Wx b mb) : Snd X Wx (.IfExp c a b pos) (fun σ S Q E => mc σ S (fun x S1 => asBl x fun k => if k = true then ma σ S1 Q E else mb σ S1 Q E) E) := by
  refine ⟨pe_weak (pe_ifExp hc.t ha.v hb.v) fun Z H QV ⟨σ, S, Q, E, g, h, p, px⟩ => ?_, pt_weak (pt_ite hc.t ha.t hb.t) fun Z H QB ⟨σ, S, Q, E, g, h, p, px⟩ => ?_, fun ⟨_, _, _, z⟩ => by cases z⟩
  · refine ⟨σ, S, fun k S1 => if k = true then ma σ S1 Q E else mb σ S1 Q E, E, g, h, fun k S1 H1 h1 g1 e1 => ?_, px⟩
    cases k with
    | true => exact iteT ⟨σ, S1, Q, E, g1, by simpa using h1, fun w S' v H' q g' e' r' => p w S' v H' q g' (e1.trans e') r', px.next e1⟩
    | false => exact iteF ⟨σ, S1, Q, E, g1, by simpa using h1, fun w S' v H' q g' e' r' => p w S' v H' q g' (e1.trans e') r', px.next e1⟩
  · refine ⟨σ, S, fun k S1 => if k = true then ma σ S1 (fun w S' => asBl w fun b => Q b S') E else mb σ S1 (fun w S' => asBl w fun b => Q b S') E, E, g, h, fun k S1 H1 h1 g1 e1 => ?_, px⟩
    cases k with
    | true => exact iteT ⟨σ, S1, Q, E, g1, by simpa using h1, fun b S' H' q g' e' => p b S' H' q g' (e1.trans e'), px.next e1⟩
    | false => exact iteF ⟨σ, S1, Q, E, g1, by simpa using h1, fun b S' H' q g' e' => p b S' H' q g' (e1.trans e'), px.next e1⟩
end
section
variable {X : Cx} {Wx : WX} {K : PySem.W.Frag} {σ : Envr} {S S1 : Sto} {Z : L2.St} {H : Hp}
variable {a b c : Expr} {pos : Pos} {ma mb mc : MTE} {es : List Expr} {mes : Envr → Sto → (List W → Sto → Prop) → XQ → Prop}
theorem star_cons (h : notStar a = true) : starEach (a :: es) X.env = (false, eval a X.env) :: starEach es X.env := by
  cases a <;> first | rfl | (simp [notStar] at h)
theorem pa_nilL : PA X [] (liftA X.K Wx fun _ S Q _ => Q [] S) := pa_weak pa_nil fun Z H Q ⟨σ, S, QW, E, g, h, p, px⟩ => p _ _ _ _ h g .refl .nil
theorem pa_consL (hn : notStar a = true) (ha : PE X a (liftE X.K Wx ma)) (hr : PA X es (liftA X.K Wx mes)) :
    PA X (a :: es) (liftA X.K Wx fun σ S Q E => ma σ S (fun w S1 => mes σ S1 (fun ws S2 => Q (w :: ws) S2) E) E) := by
  refine pa_weak (pa_cons ha hr (star_cons hn)) fun Z H QV ⟨σ, S, Q, E, g, h, p, px⟩ => ?_
  refine ⟨σ, S, _, E, g, h, fun x S1 vx H1 h1 g1 e1 r1 => ?_, px⟩
  exact ⟨σ, S1, fun ws S2 => Q (x :: ws) S2, E, g1, h1, fun ws S2 vs H2 q g2 e2 r2 => p _ _ _ _ q g2 (e1.trans e2) (.cons (e2.rep g1.st r1) r2), px.next e1⟩
theorem backTo_any {pos : Pos} {l : List (Bool × Sem Value)} : (backTo pos l).any (·.1) = l.any (·.1) := by
  unfold backTo
  induction l with
  | nil => rfl
  | cons x r ih => simp only [List.map_cons, List.any_cons, ih]
def noStars (es : List Expr) : Bool := es.all notStar
theorem star_any : ∀ {es : List Expr}, noStars es = true → (starEach es X.env).any (·.1) = false
  | [], _ => rfl
  | a :: es, h => by
    simp only [noStars, List.all_cons, Bool.and_eq_true] at h
    rw [star_cons h.1, List.any_cons, star_any (es := es) h.2]; rfl
theorem snd_tup {k : Nat} (h : PA X es (liftA X.K Wx mes)) : Snd X Wx (.Tuple es k pos) (fun σ S Q E => mes σ S (fun ws S1 => ws.length ≤ sizeLine ∧ Q (.tup ws) S1) E) := by
  refine Snd.plain (pe_weak (pe_tup h) fun Z H QV ⟨σ, S, Q, E, g, h, p, px⟩ => ?_) (fun _ => rfl) (fun ⟨_, _, _, z⟩ => by cases z)
  refine ⟨σ, S, _, E, g, h, fun ws S1 vs H1 h1 g1 e1 r1 => ⟨by rw [← r1.length]; exact h1.1, fun q hq => ?_⟩, px⟩
  exact post_tup (fun w S' v H' q g' e' r' => p w S' v H' q g' (e1.trans e') r') g1 hq r1 h1.2
theorem RepWs.atI {ws : List W} {vs : List V} {i : Int} {w : W} (r : RepWs K H ws vs) (h : L2.atI ws i = some w) : ∃ v, L2.atI vs i = some v ∧ RepW K H w v := by
  unfold L2.atI at h ⊢
  rw [← r.length]
  cases e : ixN ws.length i with
  | none => rw [e] at h; cases h
  | some j =>
    rw [e] at h
    exact r.get (by simpa using h)
theorem plainIx (h : notSlice b = true) : PlainIx b := by
  intro o i
  cases b <;> first | rfl | (simp [notSlice] at h)
theorem idx_of {x y w : W} {vx vy : V} {QV : VK} {Q : WQ} (g : Gd K σ S Z H) (rx : RepW K H x vx) (ry : RepW K H y vy) (h : idxW x y S = some w) (q : Q w S) (p : PostE K σ S Z H Q QV) : rIx K vx vy H QV ∨ rIxD vx vy H QV := by
  cases x with
  | ref ad =>
    cases rx
    by_cases hl : ∃ ws, S ad = some (.lst ws)
    · obtain ⟨ws, e⟩ := hl
      simp only [idxW, e] at h
      cases y <;> first | (simp at h; done) | skip
      cases ry
      obtain ⟨vs, e1, r⟩ := g.st _ _ e
      obtain ⟨v, hv, rv⟩ := r.atI h
      exact .inl (.inl ⟨_, _, _, v, rfl, rfl, SqL.of e1, hv, p _ _ _ _ q g .refl rv⟩)
    · obtain ⟨v, dg, rv⟩ := dget_of g.st ry h fun ws e => hl ⟨ws, e⟩
      exact .inr ⟨ad, v, rfl, dg, p _ _ _ _ q g .refl rv⟩
  | str s =>
    cases y <;> first | (simp [idxW] at h; done) | skip
    cases rx; cases ry
    simp only [idxW] at h
    split at h
    · rename_i i hl
      cases e : L2.atI s.cps.toList i with
      | none => rw [e] at h; cases h
      | some d =>
        rw [e] at h; cases h
        exact .inl (.inr (.inr ⟨s, i, d, rfl, rfl, hl, e, p _ _ _ _ q g .refl (.str _)⟩))
    · cases h
  | tup ws =>
    cases y <;> first | (simp [idxW] at h; done) | skip
    cases ry
    cases rx with
    | tup q1 r =>
      simp only [idxW] at h
      obtain ⟨v, hv, rv⟩ := r.atI h
      exact .inl (.inr (.inl ⟨_, _, _, v, rfl, rfl, SqT.of q1, hv, p _ _ _ _ q g .refl rv⟩))
  | rol ws =>
    cases y <;> first | (simp [idxW] at h; done) | skip
    cases ry
    cases rx with
    | rol q1 r =>
      simp only [idxW] at h
      obtain ⟨v, hv, rv⟩ := r.atI h
      exact .inl (.inl ⟨_, _, _, v, rfl, rfl, q1.sql, hv, p _ _ _ _ q g .refl rv⟩)
  | _ => cases y <;> (simp [idxW] at h; done)
theorem snd_idx (hu : X.A.units + 1 < cLine) (hs : notSlice b = true) (ha : PE X a (liftE X.K Wx ma)) (hb : PE X b (liftE X.K Wx mb)) :
    Snd X Wx (.Subscript a b pos) (fun σ S Q E => ma σ S (fun x S1 => mb σ S1 (fun y S2 => match idxW x y S2 with
    | some w => Q w S2
    | none => False) E) E) := by
  refine Snd.plain (pe_weak (pe_ix (ix_seq.or (ix_dict hu)) ha hb (plainIx hs)) fun Z H QV ⟨σ, S, Q, E, g, h, p, px⟩ => ?_) (fun _ => rfl) (fun ⟨_, _, _, z⟩ => by cases z)
  refine bin_lift (op := fun x y S Q => match idxW x y S with
    | some w => Q w S
    | none => False) (fun x y S Q vx vy H QV g rx ry h p => ?_) g h p px
  cases e : idxW x y S with
  | none => rw [e] at h; exact h.elim
  | some w => rw [e] at h; exact idx_of g rx ry e h p
theorem cut_rep {ws : List W} {vs : List V} (r : RepWs K H ws vs) (lo hi : Option Int) : RepWs K H (cutW ws lo hi) (cutV vs lo hi) := by
  unfold cutW cutV
  rw [← r.length]
  exact (r.drop _).take _
theorem cut_whole {vs : List V} {lo hi : Option Int} (h : HT.sIx vs.length 0 lo = 0 ∧ HT.sIx vs.length vs.length hi = vs.length) : cutV vs lo hi = vs := by
  unfold cutV
  rw [h.1, h.2]; simp
theorem po_noneL : PO X none (liftO X.K Wx fun _ S Q _ => Q none S) := po_weak po_none fun Z H Q ⟨σ, S, QW, E, g, h, p, px⟩ => p _ _ _ h g .refl
theorem po_someL (ha : PE X a (liftE X.K Wx ma)) : PO X (some a) (liftO X.K Wx fun σ S Q E => ma σ S (fun w S1 => match w with
    | .int i => Q (some i) S1
    | _ => False) E) := by
  refine po_weak (po_some ha) fun Z H QV ⟨σ, S, Q, E, g, h, p, px⟩ => ?_
  refine ⟨σ, S, _, E, g, h, fun x S1 vx H1 h1 g1 e1 r1 => ?_, px⟩
  cases x <;> first | exact h1.elim | skip
  cases r1
  exact ⟨_, rfl, p _ _ _ h1 g1 e1⟩
variable {lo hi : Option Expr} {ml mh : Envr → Sto → (Option Int → Sto → Prop) → XQ → Prop}
theorem snd_slc {p2 : Pos} (ha : PE X a (liftE X.K Wx ma)) (hl : PO X lo (liftO X.K Wx ml)) (hh : PO X hi (liftO X.K Wx mh)) :
    Snd X Wx (.Subscript a (.Slice lo hi none p2) pos) (fun σ S Q E => ma σ S (fun x S1 => ml σ S1 (fun l S2 => mh σ S2 (fun h S3 => match x with
    | .tup ws => Q (.tup (cutW ws l h)) S3
    | _ => False) E) E) E) := by
  refine Snd.plain (pe_weak (pe_slice sl_tupA ha hl hh) fun Z H QV ⟨σ, S, Q, E, g, h, p, px⟩ => ?_) (fun _ => rfl) (fun ⟨_, _, _, z⟩ => by cases z)
  refine ⟨σ, S, _, E, g, h, fun x S1 vx H1 h1 g1 e1 r1 => ?_, px⟩
  refine ⟨σ, S1, _, E, g1, h1, fun l S2 H2 h2 g2 e2 => ?_, px.next e1⟩
  refine ⟨σ, S2, _, E, g2, h2, fun u S3 H3 h3 g3 e3 => ?_, px.next (e1.trans e2)⟩
  cases x <;> first | exact h3.elim | skip
  cases (e2.trans e3).rep g1.st r1 with
  | tup q r =>
    have e := (e1.trans e2).trans e3
    refine ⟨_, _, rfl, SqT.of q, fun hw => ?_, fun hw ad had => ?_⟩
    · refine p _ _ _ _ h3 g3 e (.tup q ?_)
      have z := cut_rep r l u
      rw [cut_whole hw] at z; exact z
    · exact post_tup (fun w S' v H' q g' e' r' => p w S' v H' q g' (e.trans e') r') g3 had (cut_rep r l u) h3
theorem pe_call0S {CX : CXT} {k : Nat} {f : Addr} {fd : FuncData} {ps : List Str} {sp : Sp} {x : Str} {p : Pos} {E : L2.St → XK} (F : FnOk X.prog X.w X.K X.mg X.base CX k f fd ps sp) (hr : Room k X.A) (hg : Gl X x) (hm : X.mg x = some (.ref f)) (hk : PySem.W.keepIn X.K (.ref f) = true) (hb : Binds X.K fd ps []) (hx : ∀ σ, PassesAt CX X σ (E σ))
    (hdb : (x == ("__debug__" : Str)) = false) : PE X (.Call (.Name x p) [] [] pos) (tCallSD sp [] E tNil) := by
  refine ⟨fun pins s σ H Q I h => ?_⟩
  refine wpAny_Call_Name_kw (ld_glob I hg hm ?_ hdb)
  exact PySem.W.callWith_K0 I.kIn hk (run_fnSD (us := []) F hr hb .nil (hx σ) I .nil h)
theorem liftSp_of {m : MSp} {ws : List W} {vs : List V} {Q : WQ} {E : XQ} {QV : VK} (g : Gd X.K σ S Z H) (r : RepWs X.K H ws vs) (h : m ws S Q E) (p : PostE X.K σ S Z H Q QV) (px : PostX X.K Wx σ S Z H E) : liftSp X.K m vs H QV (WE Wx Z) :=
  ⟨ws, S, Q, E, r, g.st, h, fun w S' v H' q s' e' r' => p w S' v H' q (g.next e' s') e' r', fun C S' H' q s' e' => px C S' H' q (g.next e' s') e'⟩
theorem PostE.next {Q : WQ} {QV : VK} {H1 : Hp} (p : PostE K σ S Z H Q QV) (e : Ext S H S1 H1) : PostE K σ S1 Z H1 Q QV := fun w S' v H' q g' e' r' => p w S' v H' q g' (e.trans e') r'
theorem plain_dbg {x : Str} (hd : plainNm x = true) : (x == ("__debug__" : Str)) = false := by
  simp only [plainNm, Bool.and_eq_true, Bool.not_eq_true'] at hd; exact hd.1
theorem snd_call {k : Nat} {f : Addr} {fd : FuncData} {ps : List Str} {m : MSp} {x : Str} {p : Pos} (F : FnOk X.prog X.w X.K X.mg X.base (L2.CX X.prog X.w) k f fd ps (liftSp X.K m)) (hr : Room k X.A) (hm : X.mg x = some (.ref f)) (hk : PySem.W.keepIn X.K (.ref f) = true) (hb : Binds X.K fd ps [])
    (tk : Takes X Wx) (hg : Gl X x) (hd : plainNm x = true) (hs : noStars (a :: es) = true) (ha : PA X (a :: es) (liftA X.K Wx mes)) :
    Snd X Wx (.Call (.Name x p) (a :: es) [] pos) (fun σ S Q E => mes σ S (fun ws S1 => m ws S1 Q E) E) := by
  have hs' := hs
  simp only [noStars, List.all_cons, Bool.and_eq_true] at hs'
  refine Snd.plain (pe_weak (pe_callSD (E := fun Z => WE Wx Z) F hr hg hm hk hb .nil (fun σ => passAt tk σ) ha (plain_dbg hd) (star_cons hs'.1) (by rw [backTo_any]; exact star_any hs'.2)) fun Z H QV ⟨σ, S, Q, E, g, h, p, px⟩ => ?_) (fun _ => rfl) (fun ⟨_, _, _, z⟩ => by cases z)
  refine ⟨σ, S, _, E, g, h, fun ws S1 vs H1 h1 g1 e1 r1 => ?_, px⟩
  dsimp only
  rw [List.append_nil]
  exact liftSp_of g1 r1 h1 (p.next e1) (px.next e1)
theorem snd_call0 {k : Nat} {f : Addr} {fd : FuncData} {ps : List Str} {m : MSp} {x : Str} {p : Pos} (F : FnOk X.prog X.w X.K X.mg X.base (L2.CX X.prog X.w) k f fd ps (liftSp X.K m)) (hr : Room k X.A) (hm : X.mg x = some (.ref f)) (hk : PySem.W.keepIn X.K (.ref f) = true) (hb : Binds X.K fd ps [])
    (tk : Takes X Wx) (hg : Gl X x) (hd : plainNm x = true) :
    Snd X Wx (.Call (.Name x p) [] [] pos) (fun σ S Q E => m [] S Q E) := by
  refine Snd.plain (pe_weak (pe_call0S (E := fun Z => WE Wx Z) F hr hg hm hk hb (fun σ => passAt tk σ) (plain_dbg hd)) fun Z H QV ⟨σ, S, Q, E, g, h, p, px⟩ => ?_) (fun _ => rfl) (fun ⟨_, _, _, z⟩ => by cases z)
  exact liftSp_of g .nil h p px
def CallOk (X : Cx) (x : Str) (r : List V → Hp → VK → Prop) : Prop := ∀ {a : Expr} {es : List Expr} {t : TA} {p pos : Pos}, noStars (a :: es) = true → PA X (a :: es) t → PE X (.Call (.Name x p) (a :: es) [] pos) (tCB r t)
theorem callOk_b {r : List V → Hp → VK → Prop} {id : String} {x : Str} (hc : CallR X (.builtin id) r) (hg : Gl X x) (hm : X.mg x = none) (hv : bootBuiltins x = some (.builtin id)) (hn : x ≠ "__name__") (hd : plainNm x = true) : CallOk X x r := fun hs ha => by
  simp only [noStars, List.all_cons, Bool.and_eq_true] at hs
  exact pe_callB hc hg hm hv ha hn (plain_dbg hd) (star_cons hs.1) (by rw [backTo_any]; exact star_any hs.2)
theorem callOk_t {r : List V → Hp → VK → Prop} {T : String} {x : Str} (hc : CallR X (.type T) r) (hg : Gl X x) (hm : X.mg x = none) (hv : bootBuiltins x = some (.type T)) (hn : x ≠ "__name__") (hd : plainNm x = true) : CallOk X x r := fun hs ha => by
  simp only [noStars, List.all_cons, Bool.and_eq_true] at hs
  exact pe_callTy hc hg hm hv ha hn (plain_dbg hd) (star_cons hs.1) (by rw [backTo_any]; exact star_any hs.2)
theorem pe_blt1 {r : List V → Hp → VK → Prop} {x : Str} {p : Pos} {op : W → Sto → WQ → Prop} (hc : CallOk X x r) (h1 : notStar a = true) (ha : PE X a (liftE X.K Wx ma))
    (hop : ∀ w v (σ : Envr) S Z H Q QV, Gd X.K σ S Z H → RepW X.K H w v → op w S Q → PostE X.K σ S Z H Q QV → r [v] H QV) :
    PE X (.Call (.Name x p) [a] [] pos) (liftE X.K Wx fun σ S Q E => ma σ S (fun x S1 => op x S1 Q) E) := by
  refine pe_weak (hc (by simp [noStars, h1]) (pa_cons ha pa_nil (star_cons h1))) fun Z H QV ⟨σ, S, Q, E, g, h, p, px⟩ => ?_
  exact ⟨σ, S, _, E, g, h, fun w S1 v H1 q g1 e1 r1 => hop w v σ S1 Z H1 Q QV g1 r1 q (p.next e1), px⟩
theorem pe_blt2 {r : List V → Hp → VK → Prop} {x : Str} {p : Pos} {op : W → W → Sto → WQ → Prop} (hc : CallOk X x r) (h1 : notStar a = true) (h2 : notStar b = true) (ha : PE X a (liftE X.K Wx ma)) (hb : PE X b (liftE X.K Wx mb))
    (hop : ∀ w u v t (σ : Envr) S Z H Q QV, Gd X.K σ S Z H → RepW X.K H w v → RepW X.K H u t → op w u S Q → PostE X.K σ S Z H Q QV → r [v, t] H QV) :
    PE X (.Call (.Name x p) [a, b] [] pos) (liftE X.K Wx fun σ S Q E => ma σ S (fun x S1 => mb σ S1 (fun y S2 => op x y S2 Q) E) E) := by
  refine pe_weak (hc (by simp [noStars, h1, h2]) (pa_cons ha (pa_cons hb pa_nil (star_cons h2)) (star_cons h1))) fun Z H QV ⟨σ, S, Q, E, g, h, p, px⟩ => ?_
  refine ⟨σ, S, _, E, g, h, fun w S1 v H1 q g1 e1 r1 => ?_, px⟩
  exact ⟨σ, S1, _, E, g1, q, fun u S2 t H2 q2 g2 e2 r2 => hop w u v t σ S2 Z H2 Q QV g2 (e2.rep g1.st r1) r2 q2 (p.next (e1.trans e2)), px.next e1⟩
theorem call_plain {x : Str} {p : Pos} {args : List Expr} {m : MTE} (h : PE X (.Call (.Name x p) args [] pos) (liftE X.K Wx m)) : Snd X Wx (.Call (.Name x p) args [] pos) m := Snd.plain h (fun _ => rfl) (fun ⟨_, _, _, z⟩ => by cases z)
theorem snd_mx {x y : Expr} {p : Pos} (hcalm : X.calm = true) (hg : Gl X "max") (hm : X.mg "max" = none) (h1 : notStar x = true) (h2 : notStar y = true) (ha : PE X x (liftE X.K Wx ma)) (hb : PE X y (liftE X.K Wx mb)) :
    Snd X Wx (.Call (.Name "max" p) [x, y] [] pos) (fun σ S Q E => ma σ S (fun x S1 => mb σ S1 (fun y S2 => match x, y with
    | .int i, .int j => Q (.int (max i j)) S2
    | _, _ => False) E) E) := by
  refine call_plain (pe_blt2 (op := fun x y S Q => match x, y with
    | .int i, .int j => Q (.int (max i j)) S
    | _, _ => False) (callOk_b (call_max2 hcalm) hg hm boot_max (by decide) (by decide)) h1 h2 ha hb fun w u v t σ S Z H Q QV g r1 r2 h p => ?_)
  cases w <;> first | exact h.elim | skip
  cases u <;> first | exact h.elim | skip
  rename_i i j
  cases r1; cases r2
  have e : (if j > i then j else i) = max i j := by omega
  exact ⟨i, j, rfl, by rw [e]; exact p _ _ _ _ h g .refl (.int _)⟩
theorem snd_mn {x y : Expr} {p : Pos} (hcalm : X.calm = true) (hg : Gl X "min") (hm : X.mg "min" = none) (h1 : notStar x = true) (h2 : notStar y = true) (ha : PE X x (liftE X.K Wx ma)) (hb : PE X y (liftE X.K Wx mb)) :
    Snd X Wx (.Call (.Name "min" p) [x, y] [] pos) (fun σ S Q E => ma σ S (fun x S1 => mb σ S1 (fun y S2 => match x, y with
    | .int i, .int j => Q (.int (min i j)) S2
    | _, _ => False) E) E) := by
  refine call_plain (pe_blt2 (op := fun x y S Q => match x, y with
    | .int i, .int j => Q (.int (min i j)) S
    | _, _ => False) (callOk_b (call_min2 hcalm) hg hm boot_min (by decide) (by decide)) h1 h2 ha hb fun w u v t σ S Z H Q QV g r1 r2 h p => ?_)
  cases w <;> first | exact h.elim | skip
  cases u <;> first | exact h.elim | skip
  rename_i i j
  cases r1; cases r2
  have e : (if j < i then j else i) = min i j := by omega
  exact ⟨i, j, rfl, by rw [e]; exact p _ _ _ _ h g .refl (.int _)⟩
theorem t_len {X : Cx} {pins} {σ} {H : Hp} {s : Shared} {A} {a : Addr} {kvs : List (List Key × V)} {E} {Q : Value → Shared → Prop} (I : Inv X pins σ H s) (e : Rd H a (.dT kvs)) (h : ∀ t s', Inv X pins σ H s' → Q (.int kvs.length t) s') : wpAny (model X.prog X.w) A (call (.builtin "len") [.ref a]) Q E s := by
  obtain ⟨z, hd, xs, rel, dd⟩ := dt_rd I.hok e
  obtain ⟨es, ep, hr, hs, _⟩ := Heap.DictOfH.raw dd
  have hl : es.size = kvs.length := by rw [hs]; exact rel.length.symm
  rw [sizeLine_eq] at z
  refine PyProof.Rows.call_len_slot hr.typeIs PySem.F.slot_dict_len (fun Q' h' => PySem.call_len_raw hd hr (by rw [hl]; exact h')) (by omega) (by omega) ?_
  exact h _ _ ((I.tok _).tok _)
theorem call_lenT {X : Cx} : CallR X (.builtin "len") (fun xs H Q => ∃ a kvs, xs = [V.ref a] ∧ H a = some (.dT kvs) ∧ Q (.int kvs.length) H) := by
  intro pins s σ H xs us Q I r h
  obtain ⟨a, kvs, rfl, ha, q⟩ := h
  obtain ⟨u, rfl, ru⟩ := vals1 r
  cases ru
  exact t_len I (.inl ha) fun t s' I' => ⟨.int kvs.length, H, I', ⟨t, rfl⟩, q⟩
theorem snd_len {x : Expr} {p : Pos} (hg : Gl X "len") (hm : X.mg "len" = none) (h1 : notStar x = true) (ha : PE X x (liftE X.K Wx ma)) :
    Snd X Wx (.Call (.Name "len" p) [x] [] pos) (fun σ S Q E => ma σ S (fun x S1 => match lenW x S1 with
    | some n => Q (.int n) S1
    | none => False) E) := by
  refine call_plain (pe_blt1 (op := fun x S Q => match lenW x S with
    | some n => Q (.int n) S
    | none => False) (callOk_b (call_len_seq.or (call_len_str.or (call_lenD.or call_lenT))) hg hm boot_len (by decide) (by decide)) h1 ha fun w v σ S Z H Q QV g r h p => ?_)
  cases w <;> first | exact h.elim | skip
  · rename_i x
    cases r
    simp only [lenW] at h
    split at h
    · rename_i n e
      split at e
      · cases e
        rename_i hl
        exact .inr (.inl ⟨_, rfl, hl, p _ _ _ _ h g .refl (.int _)⟩)
      · cases e
    · exact h.elim
  · rename_i ad
    cases r
    simp only [lenW] at h
    split at h
    · rename_i n e
      split at e
      · rename_i ws es
        cases e
        obtain ⟨vs, e1, rr⟩ := g.st _ _ es
        exact .inl ⟨_, _, rfl, .inl (SqL.of e1), by rw [← rr.length]; exact p _ _ _ _ h g .refl (.int _)⟩
      · rename_i kvs es
        cases e
        obtain ⟨vs, e1, rr⟩ := g.st _ _ es
        exact .inr (.inr (.inl ⟨ad, vs, rfl, e1, by rw [← rr.length]; exact p _ _ _ _ h g .refl (.int _)⟩))
      · rename_i kvs es
        cases e
        obtain ⟨vs, e1, rr⟩ := g.st _ _ es
        exact .inr (.inr (.inr ⟨ad, vs, rfl, e1, by rw [← rr.length]; exact p _ _ _ _ h g .refl (.int _)⟩))
      · cases e
    · exact h.elim
  · cases r with
    | tup q rr => exact .inl ⟨_, _, rfl, .inr (SqT.of q), by rw [← rr.length]; exact p _ _ _ _ h g .refl (.int _)⟩
  · cases r with
    | rol q rr => exact .inl ⟨_, _, rfl, .inl q.sql, by rw [← rr.length]; exact p _ _ _ _ h g .refl (.int _)⟩
theorem SqT.ty {ad : Addr} {vs : List V} (h : SqT K H ad vs) : TyX K H (.ref ad) (.type "tuple") := by
  rcases h with (h | ⟨o, h⟩) | ⟨o, its, n, h1, h2, _⟩
  · exact .base (.tup h)
  · exact .fTuple h
  · exact .kTuple h1 h2
theorem SqL.ty {ad : Addr} {vs : List V} (h : SqL K H ad vs) : TyX K H (.ref ad) (.type "list") := by
  rcases h with (h | ⟨o, h⟩) | ⟨o, its, n, h1, h2, _⟩
  · exact .base (.lst h)
  · exact .base (.frz h)
  · exact .kList h1 h2
theorem tyW_rep {w : W} {v : V} {t : String} (g : StOk K S H) (r : RepW K H w v) (h : tyW w S = some t) : TyX K H v (.type t) := by
  cases r with
  | non => cases h; exact .base .non
  | bl b => cases h; exact .base (.bl b)
  | int b => cases h; exact .base (.int b)
  | str b => cases h; exact .base (.str b)
  | ty n => cases h
  | tup q r => cases h; exact SqT.ty (SqT.of q)
  | rol q r => cases h; exact SqL.ty q.sql
  | ref ad =>
    simp only [tyW] at h
    split at h
    · rename_i ws e
      cases h
      obtain ⟨vs, e1, _⟩ := g _ _ e
      exact SqL.ty (SqL.of e1)
    · rename_i kvs e
      cases h
      obtain ⟨vs, e1, _⟩ := g _ _ e
      exact .base (.dK e1)
    · rename_i kvs e
      cases h
      obtain ⟨vs, e1, _⟩ := g _ _ e
      exact .base (.dT e1)
    · cases h
theorem kit_tab : ∀ u ∈ ["NoneType", "bool", "int", "str", "tuple", "list", "dict"], ∀ t ∈ ["int", "bool", "str", "tuple", "list"], kitB u t = some (u == t || (u == "bool" && t == "int")) := by decide +kernel
theorem tyW_mem {w : W} {t : String} (h : tyW w S = some t) : t ∈ ["NoneType", "bool", "int", "str", "tuple", "list", "dict"] := by
  unfold tyW at h
  split at h <;> first | (cases h; done) | (cases h; decide) | skip
  split at h <;> first | (cases h; done) | (cases h; decide)
theorem isaT_of {t : String} {y : Str} (h : isaT t y = true) : t ∈ ["int", "bool", "str", "tuple", "list"] ∧ bootBuiltins y = some (.type t) ∧ y ≠ "__name__" ∧ y ∈ bltNames ∧ plainNm y = true := by
  simp only [isaT, Bool.or_eq_true, Bool.and_eq_true, beq_iff_eq, decide_eq_true_eq] at h
  rcases h with (((⟨rfl, rfl⟩ | ⟨rfl, rfl⟩) | ⟨rfl, rfl⟩) | ⟨rfl, rfl⟩) | ⟨rfl, rfl⟩
  all_goals exact ⟨by decide, by decide +kernel, by decide, by decide, by decide⟩
theorem snd_isa {x : Expr} {y : Str} {p p2 : Pos} {t : String} (hg : Gl X "isinstance") (hm : X.mg "isinstance" = none) (hgy : Gl X y) (hmy : X.mg y = none) (ht : isaT t y = true) (h1 : notStar x = true) (ha : PE X x (liftE X.K Wx ma)) :
    Snd X Wx (.Call (.Name "isinstance" p) [x, .Name y p2] [] pos) (fun σ S Q E => ma σ S (fun x S1 => match isaW x t S1 with
    | some b => Q (.bl b) S1
    | none => False) E) := by
  obtain ⟨t1, t2, t3, _, t5⟩ := isaT_of ht
  refine call_plain (pe_weak ((callOk_b call_isi hg hm PyProof.Rows.boot_isinstance (by decide) (by decide)) (by simp only [noStars, List.all_cons, h1, Bool.true_and]; rfl) (pa_cons ha (pa_cons (pe_bltn (v := .ty t) hgy hmy t2 rfl t3 (plain_dbg t5)) pa_nil (star_cons rfl)) (star_cons h1))) fun Z H QV ⟨σ, S, Q, E, g, h, p, px⟩ => ?_)
  refine ⟨σ, S, _, E, g, h, fun w S1 v H1 q g1 e1 r1 => ?_, px⟩
  dsimp only at q
  cases e : tyW w S1 with
  | none => rw [isaW, e] at q; exact q.elim
  | some u =>
    rw [isaW, e] at q
    exact ⟨_, _, _, _, _, rfl, .ty t, tyW_rep g1.st r1 e, kit_ty (kit_tab u (tyW_mem e) t t1), p _ _ _ _ q g1 e1 (.bl _)⟩
end
section
variable {X : Cx} {Wx : WX} {K : PySem.W.Frag} {σ : Envr} {S S1 S' : Sto} {Z : L2.St} {H H1 H' : Hp}
variable {a b c : Expr} {pos : Pos} {ma mb mc : MTE} {es : List Expr} {mes mt mt2 : Envr → Sto → (List W → Sto → Prop) → XQ → Prop} {ml ml2 : Envr → Sto → LQ → XQ → Prop}
theorem Rdb.now {ws : List W} {k : LK} {st : Sto → Prop} {v : V} (r : Rdb K S H ws k st v) (g : StOk K S H) : ∃ p vs, v = .ref p ∧ RepWs K H ws vs ∧ KindAt K H p vs k := by
  obtain ⟨h, p, e, q⟩ := r
  obtain ⟨vs, h1, h2⟩ := q S H .refl g h
  exact ⟨p, vs, e, h1, h2⟩
theorem Rdb.next {ws : List W} {k : LK} {st : Sto → Prop} {v : V} (r : Rdb K S H ws k st v) (x : Ext S H S1 H1) (h : st S1) : Rdb K S1 H1 ws k st v := by
  obtain ⟨_, p, e, q⟩ := r
  exact ⟨h, p, e, fun S2 H2 x2 g2 h2 => q S2 H2 (x.trans x2) g2 h2⟩
theorem KindAt.sql {p : Addr} {vs : List V} {k : LK} (h : KindAt K H p vs k) (hk : k ≠ .tu) : SqL K H p vs := by
  cases k with
  | ls => exact SqL.of h
  | ro => exact h
  | tu => exact (hk rfl).elim
theorem KindAt.seq {p : Addr} {vs : List V} {k : LK} (h : KindAt K H p vs k) : SqL K H p vs ∨ SqT K H p vs := by
  cases k with
  | ls => exact .inl (SqL.of h)
  | ro => exact .inl h
  | tu => exact .inr (SqT.of h)
def Pln (X : Cx) (e : Expr) : Prop := (∀ whole, isTrue e X.env whole = (do let v ← whole; standAt e.pos; holding [v] (truthy v))) ∧ ¬ ∃ op vs p, e = .BoolOp op vs p
def PostT (K : PySem.W.Frag) (σ : Envr) (S : Sto) (Z : L2.St) (H : Hp) (Q : List W → Sto → Prop) (QV : VK) : Prop := ∀ ws S' p vs H', Q ws S' → Gd K σ S' Z H' → Ext S H S' H' → H' p = some (.lst vs) → RepWs K H' ws vs → S' p = none → H p = none → QV (.ref p) H'
theorem PostT.next {Q : List W → Sto → Prop} {QV : VK} (p : PostT K σ S Z H Q QV) (e : Ext S H S1 H1) : PostT K σ S1 Z H1 Q QV := fun ws S' q vs H' h g' e' h1 h2 h3 h4 => p ws S' q vs H' h g' (e.trans e') h1 h2 h3 (e.free h4)
theorem post_lst {Q : List W → Sto → Prop} {QV : VK} {q : Addr} {ws : List W} {vs : List V} (p : PostT K σ S Z H Q QV) (g : Gd K σ S Z H) (hq : H q = none) (r : RepWs K H ws vs) (h : Q ws S) : QV (.ref q) (upd H q (.lst vs)) :=
  p ws S q vs _ h (g.next (Ext.fresh hq) (g.st.fresh hq)) (Ext.fresh hq) upd_same ((Ext.fresh (S := S) (o := .lst vs) hq).reps g.st r) (g.st.free hq) hq
structure SndT (X : Cx) (Wx : WX) (e : Expr) (m : Envr → Sto → (List W → Sto → Prop) → XQ → Prop) : Prop where
  v : PE X e (liftT X.K Wx m)
  p : Pln X e
theorem snd_mat (h : SndT X Wx a mt) : Snd X Wx a (fun σ S Q E => mt σ S (fun ws S1 => ∀ p, S1 p = none → Q (.ref p) (put S1 p (.lst ws))) E) := by
  refine Snd.plain (pe_weak h.v fun Z H QV ⟨σ, S, Q, E, g, hm, p, px⟩ => ?_) h.p.1 h.p.2
  refine ⟨σ, S, _, E, g, hm, fun ws S' q vs H' hq g' e' hl r hS hH => ?_, px⟩
  exact p _ _ _ _ (hq q hS) ⟨g'.len, g'.sl, g'.st.mat ⟨vs, hl, r⟩⟩ (e'.mat hH) (.ref q)
theorem lst_t (h : PE X a (liftT X.K Wx mt)) : PE X a (liftL X.K Wx fun σ S Q E => mt σ S (fun ws S1 => Q ws .ls (fun _ => True) S1) E) := by
  refine pe_weak h fun Z H QV ⟨σ, S, Q, E, g, hm, p, px⟩ => ?_
  refine ⟨σ, S, _, E, g, hm, fun ws S' q vs H' hq g' e' hl r hS hH => ?_, px⟩
  exact p _ _ _ _ _ _ hq g' e' ⟨trivial, q, rfl, fun S2 H2 x2 g2 _ => ⟨vs, x2.reps g'.st r, x2.fr q _ hl hS⟩⟩
theorem lst_of (h : PE X a (liftE X.K Wx ma)) : PE X a (liftL X.K Wx fun σ S Q E => ma σ S (fun x S1 => match x with
    | .tup ws => Q ws .tu (fun _ => True) S1
    | .rol ws => Q ws .ro (fun _ => True) S1
    | .ref a => (match S1 a with
      | some (.lst ws) => Q ws .ls (fun S2 => S2 a = some (.lst ws)) S1
      | _ => False)
    | _ => False) E) := by
  refine pe_weak h fun Z H QV ⟨σ, S, Q, E, g, hm, p, px⟩ => ?_
  refine ⟨σ, S, _, E, g, hm, fun w S' v H' hq g' e' r => ?_, px⟩
  cases w <;> first | exact hq.elim | skip
  · rename_i ad
    cases r
    dsimp only at hq
    split at hq
    · rename_i ws es
      refine p _ _ _ _ _ _ hq g' e' ⟨es, ad, rfl, fun S2 H2 x2 g2 h2 => ?_⟩
      obtain ⟨vs, e2, r2⟩ := g2 _ _ h2
      exact ⟨vs, r2, e2⟩
    · exact hq.elim
  · cases r with
    | tup q r => exact p _ _ _ _ _ _ hq g' e' ⟨trivial, _, rfl, fun S2 H2 x2 g2 _ => ⟨_, x2.reps g'.st r, (x2.stay g'.st).1 _ _ q⟩⟩
  · cases r with
    | rol q r => exact p _ _ _ _ _ _ hq g' e' ⟨trivial, _, rfl, fun S2 H2 x2 g2 _ => ⟨_, x2.reps g'.st r, ((x2.stay g'.st).2 _ _ q).sql⟩⟩
theorem pe_bltL {r : List V → Hp → VK → Prop} {x : Str} {p : Pos} {op : List W → LK → (Sto → Prop) → Sto → WQ → Prop} (hc : CallOk X x r) (h1 : notStar a = true) (ha : PE X a (liftL X.K Wx ml))
    (hop : ∀ ws k st v (σ : Envr) S Z H Q QV, Gd X.K σ S Z H → Rdb X.K S H ws k st v → op ws k st S Q → PostE X.K σ S Z H Q QV → r [v] H QV) :
    PE X (.Call (.Name x p) [a] [] pos) (liftE X.K Wx fun σ S Q E => ml σ S (fun ws k st S1 => op ws k st S1 Q) E) := by
  refine pe_weak (hc (by simp [noStars, h1]) (pa_cons ha pa_nil (star_cons h1))) fun Z H QV ⟨σ, S, Q, E, g, h, p, px⟩ => ?_
  exact ⟨σ, S, _, E, g, h, fun ws k st S1 v H1 q g1 e1 r1 => hop ws k st v σ S1 Z H1 Q QV g1 r1 q (p.next e1), px⟩
theorem pe_bltT {r : List V → Hp → VK → Prop} {x : Str} {p : Pos} {op : List W → LK → (Sto → Prop) → Sto → (List W → Sto → Prop) → Prop} (hc : CallOk X x r) (h1 : notStar a = true) (ha : PE X a (liftL X.K Wx ml))
    (hop : ∀ ws k st v (σ : Envr) S Z H Q QV, Gd X.K σ S Z H → Rdb X.K S H ws k st v → op ws k st S Q → PostT X.K σ S Z H Q QV → r [v] H QV) :
    SndT X Wx (.Call (.Name x p) [a] [] pos) (fun σ S Q E => ml σ S (fun ws k st S1 => op ws k st S1 Q) E) := by
  refine ⟨pe_weak (hc (by simp [noStars, h1]) (pa_cons ha pa_nil (star_cons h1))) fun Z H QV ⟨σ, S, Q, E, g, h, p, px⟩ => ?_, fun _ => rfl, fun ⟨_, _, _, z⟩ => by cases z⟩
  exact ⟨σ, S, _, E, g, h, fun ws k st S1 v H1 q g1 e1 r1 => hop ws k st v σ S1 Z H1 Q QV g1 r1 q (PostT.next p e1), px⟩
theorem snd_tupl {p : Pos} (hg : Gl X "tuple") (hm : X.mg "tuple" = none) (h1 : notStar a = true) (ha : PE X a (liftL X.K Wx ml)) :
    Snd X Wx (.Call (.Name "tuple" p) [a] [] pos) (fun σ S Q E => ml σ S (fun ws _ _ S1 => Q (.tup ws) S1) E) := by
  refine call_plain (pe_bltL (op := fun ws _ _ S Q => Q (.tup ws) S) (callOk_t call_tuple_of hg hm PyProof.Rows.boot_tuple (by decide) (by decide)) h1 ha fun ws k st v σ S Z H Q QV g r h p => ?_)
  obtain ⟨q, vs, rfl, r1, r2⟩ := r.now g.st
  refine ⟨q, vs, rfl, ?_⟩
  cases k with
  | ls => exact .inl ⟨SqL.of r2, fun l hl => post_tup p g hl r1 h⟩
  | ro => exact .inl ⟨r2, fun l hl => post_tup p g hl r1 h⟩
  | tu => exact .inr ⟨SqT.of r2, p _ _ _ _ h g .refl (.tup r2 r1)⟩
theorem sndT_lst {p : Pos} (hg : Gl X "list") (hm : X.mg "list" = none) (h1 : notStar a = true) (ha : PE X a (liftL X.K Wx ml)) :
    SndT X Wx (.Call (.Name "list" p) [a] [] pos) (fun σ S Q E => ml σ S (fun ws _ _ S1 => Q ws S1) E) := by
  refine pe_bltT (op := fun ws _ _ S Q => Q ws S) (callOk_t call_list_of hg hm PyProof.Rows.boot_list (by decide) (by decide)) h1 ha fun ws k st v σ S Z H Q QV g r h p => ?_
  obtain ⟨q, vs, rfl, r1, r2⟩ := r.now g.st
  exact ⟨q, vs, rfl, r2.seq, fun l hl => post_lst p g hl r1 h⟩
theorem intsOf_eq : ∀ {ws : List W} {ns : List Int}, intsOf ws = some ns → ws = ns.map W.int
  | [], _, h => by cases h; rfl
  | .int i :: r, ns, h => by
    simp only [intsOf] at h
    cases e : intsOf r with
    | none => rw [e] at h; cases h
    | some ms => rw [e] at h; cases h; rw [intsOf_eq e]; rfl
  | .non :: _, _, h => by cases h
  | .bl _ :: _, _, h => by cases h
  | .str _ :: _, _, h => by cases h
  | .ref _ :: _, _, h => by cases h
  | .ty _ :: _, _, h => by cases h
  | .tup _ :: _, _, h => by cases h
  | .rol _ :: _, _, h => by cases h
theorem blsOf_eq : ∀ {ws : List W} {ns : List Bool}, blsOf ws = some ns → ws = ns.map W.bl
  | [], _, h => by cases h; rfl
  | .bl i :: r, ns, h => by
    simp only [blsOf] at h
    cases e : blsOf r with
    | none => rw [e] at h; cases h
    | some ms => rw [e] at h; cases h; rw [blsOf_eq e]; rfl
  | .non :: _, _, h => by cases h
  | .int _ :: _, _, h => by cases h
  | .str _ :: _, _, h => by cases h
  | .ref _ :: _, _, h => by cases h
  | .ty _ :: _, _, h => by cases h
  | .tup _ :: _, _, h => by cases h
  | .rol _ :: _, _, h => by cases h
theorem rd_ints {ws : List W} {k : LK} {st : Sto → Prop} {v : V} {ns : List Int} (g : StOk K S H) (r : Rdb K S H ws k st v) (hk : k ≠ .tu) (e : intsOf ws = some ns) : ∃ p, v = .ref p ∧ SqL K H p (ns.map V.int) := by
  obtain ⟨q, vs, rfl, r1, r2⟩ := r.now g
  rw [intsOf_eq e] at r1
  rw [← r1.ints]
  exact ⟨q, rfl, r2.sql hk⟩
theorem rd_bls {ws : List W} {k : LK} {st : Sto → Prop} {v : V} {ns : List Bool} (g : StOk K S H) (r : Rdb K S H ws k st v) (hk : k ≠ .tu) (e : blsOf ws = some ns) : ∃ p, v = .ref p ∧ SqL K H p (ns.map V.bl) := by
  obtain ⟨q, vs, rfl, r1, r2⟩ := r.now g
  rw [blsOf_eq e] at r1
  rw [← r1.bls]
  exact ⟨q, rfl, r2.sql hk⟩
theorem snd_sum {p : Pos} (hc : X.calm = true) (hg : Gl X "sum") (hm : X.mg "sum" = none) (h1 : notStar a = true) (ha : PE X a (liftL X.K Wx ml)) :
    Snd X Wx (.Call (.Name "sum" p) [a] [] pos) (fun σ S Q E => ml σ S (fun ws k _ S1 => k ≠ .tu ∧ match intsOf ws with
    | some ns => Q (.int ns.sum) S1
    | none => False) E) := by
  refine call_plain (pe_bltL (op := fun ws k _ S Q => k ≠ .tu ∧ match intsOf ws with
    | some ns => Q (.int ns.sum) S
    | none => False) (callOk_b (cr_sum hc) hg hm boot_sum (by decide) (by decide)) h1 ha fun ws k st v σ S Z H Q QV g r h p => ?_)
  obtain ⟨hk, h⟩ := h
  split at h
  · rename_i ns e
    obtain ⟨q, rfl, z⟩ := rd_ints g.st r hk e
    exact ⟨q, ns, rfl, z, p _ _ _ _ h g .refl (.int _)⟩
  · exact h.elim
theorem snd_any {p : Pos} (hc : X.calm = true) (hg : Gl X "any") (hm : X.mg "any" = none) (h1 : notStar a = true) (ha : PE X a (liftL X.K Wx ml)) :
    Snd X Wx (.Call (.Name "any" p) [a] [] pos) (fun σ S Q E => ml σ S (fun ws k _ S1 => k ≠ .tu ∧ match blsOf ws with
    | some bs => Q (.bl (bs.any id)) S1
    | none => False) E) := by
  refine call_plain (pe_bltL (op := fun ws k _ S Q => k ≠ .tu ∧ match blsOf ws with
    | some bs => Q (.bl (bs.any id)) S
    | none => False) (callOk_b (cr_any hc) hg hm boot_any (by decide) (by decide)) h1 ha fun ws k st v σ S Z H Q QV g r h p => ?_)
  obtain ⟨hk, h⟩ := h
  split at h
  · rename_i ns e
    obtain ⟨q, rfl, z⟩ := rd_bls g.st r hk e
    exact ⟨q, ns, rfl, z, p _ _ _ _ h g .refl (.bl _)⟩
  · exact h.elim
theorem snd_all {p : Pos} (hc : X.calm = true) (hg : Gl X "all") (hm : X.mg "all" = none) (h1 : notStar a = true) (ha : PE X a (liftL X.K Wx ml)) :
    Snd X Wx (.Call (.Name "all" p) [a] [] pos) (fun σ S Q E => ml σ S (fun ws k _ S1 => k ≠ .tu ∧ match blsOf ws with
    | some bs => Q (.bl (bs.all id)) S1
    | none => False) E) := by
  refine call_plain (pe_bltL (op := fun ws k _ S Q => k ≠ .tu ∧ match blsOf ws with
    | some bs => Q (.bl (bs.all id)) S
    | none => False) (callOk_b (cr_all hc) hg hm (by decide +kernel) (by decide) (by decide)) h1 ha fun ws k st v σ S Z H Q QV g r h p => ?_)
  obtain ⟨hk, h⟩ := h
  split at h
  · rename_i ns e
    obtain ⟨q, rfl, z⟩ := rd_bls g.st r hk e
    exact ⟨q, ns, rfl, z, p _ _ _ _ h g .refl (.bl _)⟩
  · exact h.elim
theorem snd_max1 {p : Pos} (hc : X.calm = true) (hg : Gl X "max") (hm : X.mg "max" = none) (h1 : notStar a = true) (ha : PE X a (liftL X.K Wx ml)) :
    Snd X Wx (.Call (.Name "max" p) [a] [] pos) (fun σ S Q E => ml σ S (fun ws k _ S1 => k ≠ .tu ∧ match intsOf ws with
    | some ns => ns ≠ [] ∧ ∀ m, m ∈ ns → (∀ y ∈ ns, y ≤ m) → Q (.int m) S1
    | none => False) E) := by
  refine call_plain (pe_bltL (op := fun ws k _ S Q => k ≠ .tu ∧ match intsOf ws with
    | some ns => ns ≠ [] ∧ ∀ m, m ∈ ns → (∀ y ∈ ns, y ≤ m) → Q (.int m) S
    | none => False) (callOk_b (cr_max hc) hg hm boot_max (by decide) (by decide)) h1 ha fun ws k st v σ S Z H Q QV g r h p => ?_)
  obtain ⟨hk, h⟩ := h
  split at h
  · rename_i ns e
    obtain ⟨q, rfl, z⟩ := rd_ints g.st r hk e
    exact ⟨q, ns, rfl, z, List.length_pos_iff.mpr h.1, fun m hm hy => p _ _ _ _ (h.2 m hm hy) g .refl (.int _)⟩
  · exact h.elim
theorem snd_min1 {p : Pos} (hc : X.calm = true) (hg : Gl X "min") (hm : X.mg "min" = none) (h1 : notStar a = true) (ha : PE X a (liftL X.K Wx ml)) :
    Snd X Wx (.Call (.Name "min" p) [a] [] pos) (fun σ S Q E => ml σ S (fun ws k _ S1 => k ≠ .tu ∧ match intsOf ws with
    | some ns => ns ≠ [] ∧ ∀ m, m ∈ ns → (∀ y ∈ ns, m ≤ y) → Q (.int m) S1
    | none => False) E) := by
  refine call_plain (pe_bltL (op := fun ws k _ S Q => k ≠ .tu ∧ match intsOf ws with
    | some ns => ns ≠ [] ∧ ∀ m, m ∈ ns → (∀ y ∈ ns, m ≤ y) → Q (.int m) S
    | none => False) (callOk_b (cr_min hc) hg hm boot_min (by decide) (by decide)) h1 ha fun ws k st v σ S Z H Q QV g r h p => ?_)
  obtain ⟨hk, h⟩ := h
  split at h
  · rename_i ns e
    obtain ⟨q, rfl, z⟩ := rd_ints g.st r hk e
    exact ⟨q, ns, rfl, z, List.length_pos_iff.mpr h.1, fun m hm hy => p _ _ _ _ (h.2 m hm hy) g .refl (.int _)⟩
  · exact h.elim
end
section
variable {X : Cx} {Wx : WX} {K : PySem.W.Frag} {σ : Envr} {S S1 S' : Sto} {Z : L2.St} {H H1 H' : Hp}
variable {a b c : Expr} {pos : Pos} {ma mb mc : MTE} {es : List Expr} {mes mt mt2 : Envr → Sto → (List W → Sto → Prop) → XQ → Prop} {ml ml2 : Envr → Sto → LQ → XQ → Prop} {mlo mhi : Envr → Sto → (Option Int → Sto → Prop) → XQ → Prop}
theorem sndT_dsp (h : PA X es (liftA X.K Wx mes)) : SndT X Wx (.List es pos) (fun σ S Q E => mes σ S (fun ws S1 => ws.length ≤ sizeLine ∧ Q ws S1) E) := by
  refine ⟨pe_weak (pe_lst h) fun Z H QV ⟨σ, S, Q, E, g, h, p, px⟩ => ?_, fun _ => rfl, fun ⟨_, _, _, z⟩ => by cases z⟩
  refine ⟨σ, S, _, E, g, h, fun ws S1 vs H1 h1 g1 e1 r1 => ⟨by rw [← r1.length]; exact h1.1, fun q hq => ?_⟩, px⟩
  exact post_lst (PostT.next p e1) g1 hq r1 h1.2
def rCatL (K : PySem.W.Frag) : R2 := fun x y H Q => ∃ l b xs zs, x = .ref l ∧ y = .ref b ∧ SqL K H l xs ∧ SqL K H b zs ∧ xs.length + zs.length ≤ sizeLine ∧ ∀ p, H p = none → Q (.ref p) (upd H p (.lst (xs ++ zs)))
theorem op_catL : OpR X (binaryOp .Add) (rCatL X.K) := by
  intro pins s σ H x y v u Q I rx ry h
  obtain ⟨l, b, xs, zs, rfl, rfl, hH, hB, hz, q⟩ := h
  cases rx
  cases ry
  obtain ⟨its, r, ⟨o1, n1, ho1, hc1, hd1, he1⟩, hl1⟩ := I.list hH
  obtain ⟨its2, r2, ⟨o2, n2, ho2, hc2, hd2, he2⟩, hl2⟩ := I.list hB
  obtain ⟨cls, dd, data, sl⟩ := o1
  obtain ⟨cls2, dd2, data2, sl2⟩ := o2
  simp only at hc1 hd1 he1 hc2 hd2 he2
  subst hc1 hd1 he1 hc2 hd2 he2
  have l1 := r.length
  have l2 := r2.length
  refine concat_meets ⟨_, ho1, rfl⟩ ⟨_, ho2, rfl⟩ noFill_list_add seq_list_add PySem.F.slot_list_add PySem.F.entry_list_add (PySem.F.args_list_add_2 _ _) (list_addW l b its.toArray its2.toArray n1 n2 none none sl sl2 (by simp; omega)) ⟨ho1, ho2, ?_⟩
  have ea : its.toArray ++ its2.toArray = (its ++ its2).toArray := by simp
  rw [ea]
  exact ⟨.ref _, _, I.lnew (t' := s.toks) (r.append r2) (by rw [List.length_append]; omega), rfl, q _ I.fresh⟩
theorem sndT_cat (ha : PE X a (liftL X.K Wx ml)) (hb : PE X b (liftL X.K Wx ml2)) :
    SndT X Wx (.BinOp a .Add b pos) (fun σ S Q E => ml σ S (fun xs k1 st S1 => ml2 σ S1 (fun ys k2 _ S2 => k1 ≠ .tu ∧ k2 ≠ .tu ∧ st S2 ∧ xs.length + ys.length ≤ sizeLine ∧ Q (xs ++ ys) S2) E) E) := by
  refine ⟨pe_weak (pe_op op_catL ha hb) fun Z H QV ⟨σ, S, Q, E, g, h, p, px⟩ => ?_, fun _ => rfl, fun ⟨_, _, _, z⟩ => by cases z⟩
  refine ⟨σ, S, _, E, g, h, fun xs k1 st S1 v1 H1 h1 g1 e1 r1 => ?_, px⟩
  refine ⟨σ, S1, _, E, g1, h1, fun ys k2 st2 S2 v2 H2 h2 g2 e2 r2 => ?_, px.next e1⟩
  obtain ⟨t1, t2, hst, hl, hq⟩ := h2
  obtain ⟨p1, vs1, rfl, rr1, ka1⟩ := (r1.next e2 hst).now g2.st
  obtain ⟨p2, vs2, rfl, rr2, ka2⟩ := r2.now g2.st
  exact ⟨p1, p2, vs1, vs2, rfl, rfl, ka1.sql t1, ka2.sql t2, by rw [← rr1.length, ← rr2.length]; exact hl, fun q hqq => post_lst (PostT.next p (e1.trans e2)) g2 hqq (rr1.append rr2) hq⟩
theorem sndT_slc {lo hi : Option Expr} {p2 : Pos} (ha : PE X a (liftL X.K Wx ml)) (hl : PO X lo (liftO X.K Wx mlo)) (hh : PO X hi (liftO X.K Wx mhi)) :
    SndT X Wx (.Subscript a (.Slice lo hi none p2) pos) (fun σ S Q E => ml σ S (fun xs k st S1 => mlo σ S1 (fun l S2 => mhi σ S2 (fun h S3 => k ≠ .tu ∧ st S3 ∧ Q (cutW xs l h) S3) E) E) E) := by
  refine ⟨pe_weak (pe_slice sl_list ha hl hh) fun Z H QV ⟨σ, S, Q, E, g, h, p, px⟩ => ?_, fun _ => rfl, fun ⟨_, _, _, z⟩ => by cases z⟩
  refine ⟨σ, S, _, E, g, h, fun xs k st S1 v1 H1 h1 g1 e1 r1 => ?_, px⟩
  refine ⟨σ, S1, _, E, g1, h1, fun l S2 H2 h2 g2 e2 => ?_, px.next e1⟩
  refine ⟨σ, S2, _, E, g2, h2, fun u S3 H3 h3 g3 e3 => ?_, px.next (e1.trans e2)⟩
  obtain ⟨t1, hst, hq⟩ := h3
  obtain ⟨p1, vs1, rfl, rr1, ka1⟩ := (r1.next (e2.trans e3) hst).now g3.st
  exact ⟨p1, vs1, rfl, ka1.sql t1, fun q hqq => post_lst (PostT.next p ((e1.trans e2).trans e3)) g3 hqq (cut_rep rr1 l u) hq⟩
theorem sndT_rev {k : Nat} {p1 p2 p3 : Pos} (ha : PE X a (liftL X.K Wx ml)) :
    SndT X Wx (.Subscript a (.Slice none none (some (.UnaryOp .USub (.Constant (.int 1) k p1) p2)) p3) pos) (fun σ S Q E => ml σ S (fun xs k _ S1 => k ≠ .tu ∧ Q xs.reverse S1) E) := by
  refine ⟨pe_weak (L2.pe_revL ha) fun Z H QV ⟨σ, S, Q, E, g, h, p, px⟩ => ?_, fun _ => rfl, fun ⟨_, _, _, z⟩ => by cases z⟩
  refine ⟨σ, S, _, E, g, h, fun xs k st S1 v1 H1 h1 g1 e1 r1 => ?_, px⟩
  obtain ⟨p1, vs1, rfl, rr1, ka1⟩ := r1.now g1.st
  exact ⟨p1, vs1, rfl, ka1.sql h1.1, fun q hqq => post_lst (PostT.next p e1) g1 hqq rr1.reverse h1.2⟩
theorem dp_list {ws : List W} {p : Addr} {vs : List V} (r : RepWs K H ws vs) (h : SqL K H p vs) (e : W.eqsOk ws) : Dp K H (.ref p) (.list (W.dats ws)) := .lst h (r.dp e.1)
theorem snd_eql {o : CmpOp} {k : Bool} (hk : (match o with | .Eq => k | .NotEq => !k | _ => false) = true) (hu : X.A.units + 64 < cLine) (ha : PE X a (liftL X.K Wx ml)) (hb : PE X b (liftL X.K Wx ml2)) :
    Snd X Wx (.Compare a [o] [b] pos) (fun σ S Q E => ml σ S (fun xs k1 st S1 => ml2 σ S1 (fun ys k2 _ S2 => k1 ≠ .tu ∧ k2 ≠ .tu ∧ st S2 ∧ W.eqsOk xs ∧ W.eqsOk ys ∧ Q (.bl (W.eqvs xs ys == k)) S2) E) E) := by
  cases o <;> first | (simp at hk; done) | skip
  · have hk' : k = true := hk
    subst hk'
    refine Snd.cmp (pe_cmpR (op_eqD hu) ha hb (nomark _)) (pt_cmpR (op_eqD hu) ha hb (nomark _)) (fun Z H QV ⟨σ, S, Q, E, g, h, p, px⟩ => ?_) (fun ⟨_, _, _, z⟩ => by cases z)
    refine ⟨σ, S, _, E, g, h, fun xs k1 st S1 v1 H1 h1 g1 e1 r1 => ?_, px⟩
    refine ⟨σ, S1, _, E, g1, h1, fun ys k2 st2 S2 v2 H2 h2 g2 e2 r2 => ?_, px.next e1⟩
    obtain ⟨t1, t2, hst, q1, q2, hq⟩ := h2
    obtain ⟨p1, vs1, rfl, rr1, ka1⟩ := (r1.next e2 hst).now g2.st
    obtain ⟨p2, vs2, rfl, rr2, ka2⟩ := r2.now g2.st
    refine ⟨_, _, dp_list rr1 (ka1.sql t1) q1, dp_list rr2 (ka2.sql t2) q2, q1.2, q2.2, p _ _ _ _ ?_ g2 (e1.trans e2) (.bl _)⟩
    have e : W.eqvs xs ys = PyData.eqv (.list (W.dats xs)) (.list (W.dats ys)) := by simp only [W.eqvs, PyData.eqv]
    rw [← e]
    cases z : W.eqvs xs ys <;> (rw [z] at hq; exact hq)
  · have hk' : k = false := by simpa using hk
    subst hk'
    refine Snd.cmp (pe_cmpR (op_neD hu) ha hb (nomark _)) (pt_cmpR (op_neD hu) ha hb (nomark _)) (fun Z H QV ⟨σ, S, Q, E, g, h, p, px⟩ => ?_) (fun ⟨_, _, _, z⟩ => by cases z)
    refine ⟨σ, S, _, E, g, h, fun xs k1 st S1 v1 H1 h1 g1 e1 r1 => ?_, px⟩
    refine ⟨σ, S1, _, E, g1, h1, fun ys k2 st2 S2 v2 H2 h2 g2 e2 r2 => ?_, px.next e1⟩
    obtain ⟨t1, t2, hst, q1, q2, hq⟩ := h2
    obtain ⟨p1, vs1, rfl, rr1, ka1⟩ := (r1.next e2 hst).now g2.st
    obtain ⟨p2, vs2, rfl, rr2, ka2⟩ := r2.now g2.st
    refine ⟨_, _, dp_list rr1 (ka1.sql t1) q1, dp_list rr2 (ka2.sql t2) q2, q1.2, q2.2, p _ _ _ _ ?_ g2 (e1.trans e2) (.bl _)⟩
    have e : W.eqvs xs ys = PyData.eqv (.list (W.dats xs)) (.list (W.dats ys)) := by simp only [W.eqvs, PyData.eqv]
    rw [← e]
    cases z : W.eqvs xs ys <;> (rw [z] at hq; exact hq)
theorem snd_idl (hs : notSlice b = true) (ha : PE X a (liftL X.K Wx ml)) (hb : PE X b (liftE X.K Wx mb)) :
    Snd X Wx (.Subscript a b pos) (fun σ S Q E => ml σ S (fun ws _ st S1 => mb σ S1 (fun y S2 => st S2 ∧ match y with
    | .int k => (match atI ws k with
      | some w => Q w S2
      | none => False)
    | _ => False) E) E) := by
  refine Snd.plain (pe_weak (pe_ix ix_seq ha hb (plainIx hs)) fun Z H QV ⟨σ, S, Q, E, g, h, p, px⟩ => ?_) (fun _ => rfl) (fun ⟨_, _, _, z⟩ => by cases z)
  refine ⟨σ, S, _, E, g, h, fun xs k1 st S1 v1 H1 h1 g1 e1 r1 => ?_, px⟩
  refine ⟨σ, S1, _, E, g1, h1, fun y S2 v2 H2 h2 g2 e2 r2 => ?_, px.next e1⟩
  obtain ⟨hst, h2⟩ := h2
  obtain ⟨p1, vs1, rfl, rr1, ka1⟩ := (r1.next e2 hst).now g2.st
  cases y <;> first | exact h2.elim | skip
  rename_i i
  cases r2
  dsimp only at h2
  split at h2
  · rename_i w e
    obtain ⟨v, hv, rv⟩ := rr1.atI e
    have q := p _ _ _ _ h2 g2 (e1.trans e2) rv
    rcases ka1.seq with z | z
    · exact .inl ⟨p1, vs1, i, v, rfl, rfl, z, hv, q⟩
    · exact .inr (.inl ⟨p1, vs1, i, v, rfl, rfl, z, hv, q⟩)
  · exact h2.elim
theorem isLst_ty {w : W} {v : V} (g : StOk K S H) (r : RepW K H w v) (h : isLst w S) : tyV K "list" v H := by
  cases w <;> first | exact h.elim | skip
  rename_i ad
  cases r
  unfold isLst at h
  dsimp only at h
  split at h
  · rename_i ws e
    obtain ⟨vs, e1, _⟩ := g _ _ e
    exact .inl ⟨rfl, _, SqL.of e1⟩
  · exact h.elim
theorem base_ok {r0 : Expr} {m : Str} (h : baseOk r0 = true) : attributeBase r0 m X.env (eval r0 X.env) = eval r0 X.env := by
  cases r0 <;> first | rfl | skip
  rename_i f args kws pos
  cases f <;> first | rfl | skip
  cases args with
  | cons _ _ => rfl
  | nil => cases kws with
    | cons _ _ => rfl
    | nil => simp [baseOk] at h
theorem callMt_of {m : Str} {e r : Expr} {args : List Expr} (h : callMt m e = some (r, args)) : ∃ ap pos, e = .Call (.Attribute r m ap) args [] pos ∧ baseOk r = true ∧ (ap.endLine == pos.line) = true := by
  unfold callMt at h
  split at h
  · split at h
    · rename_i o n ap args' pos hc
      cases h
      simp only [Bool.and_eq_true, decide_eq_true_eq] at hc
      obtain ⟨⟨rfl, h2⟩, h3⟩ := hc
      exact ⟨_, _, rfl, h2, h3⟩
    · cases h
  · cases h
theorem post_set {Q : WQ} {QV : VK} {l : Addr} {w : W} {v : V} {ws ws0 : List W} {vs : List V} (p : PostE K σ S Z H Q QV) (g : Gd K σ S Z H) (e : S l = some (.lst ws0)) (r : RepWs K H ws vs) (rw' : RepW K H w v) (h : Q w (put S l (.lst ws))) : QV v (upd H l (.lst vs)) := by
  have x : Ext S H (put S l (.lst ws)) (upd H l (.lst vs)) := Ext.write (by rw [e]; exact fun z => by cases z) (g.st.nfL e)
  exact p _ _ _ _ h (g.next x (g.st.setLst e r)) x (x.rep g.st rw')
variable {r0 : Expr} {m : Str} {ap : Pos}
theorem bm_few {pos : Pos} (h1 : notStar a = true) : ((backTo pos (starEach [a] X.env)).all (fun x => !x.1) && (backToKw pos (keywordEach [] X.env)).all (fun x => x.1.isSome)
      && decide ([a].length + ([] : List Keyword).length + (if ([] : List Keyword).isEmpty then 0 else 1) < 30)) = true := by
  rw [star_cons h1]; rfl
theorem snd_app {pos : Pos} (hl : (ap.endLine == pos.line) = true) (h1 : notStar a = true) (hb0 : baseOk r0 = true) (ho : PE X r0 (liftE X.K Wx ma)) (ha : PE X a (liftE X.K Wx mb)) :
    Snd X Wx (.Call (.Attribute r0 "append" ap) [a] [] pos) (fun σ S Q E => ma σ S (fun x S1 => isLst x S1 ∧ mb σ S1 (fun y S2 => match x with
    | .ref a => (match S2 a with
      | some (.lst ws) => ws.length < sizeLine ∧ Q .non (put S2 a (.lst (ws ++ [y])))
      | _ => False)
    | _ => False) E) E) := by
  refine Snd.plain (pe_weak (pe_bm PySem.F.plainAttrs_list PySem.F.slot_list_append PySem.F.type_list_append mt_append ho (pa_cons ha pa_nil (star_cons h1)) (base_ok hb0) (bm_few h1) hl (star_cons h1) rfl) fun Z H QV ⟨σ, S, Q, E, g, h, p, px⟩ => ?_) (fun _ => rfl) (fun ⟨_, _, _, z⟩ => by cases z)
  refine ⟨σ, S, _, E, g, h, fun x S1 v1 H1 h1 g1 e1 r1 => ⟨isLst_ty g1.st r1 h1.1, ?_⟩, px⟩
  refine ⟨σ, S1, _, E, g1, h1.2, fun y S2 v2 H2 h2 g2 e2 r2 => ?_, px.next e1⟩
  cases x <;> first | exact h2.elim | skip
  rename_i l
  cases r1
  dsimp only at h2
  split at h2
  · rename_i ws e
    obtain ⟨vs, hv, rv⟩ := g2.st _ _ e
    exact ⟨l, vs, v2, rfl, rfl, hv, by rw [← rv.length]; exact h2.1, post_set (p.next (e1.trans e2)) g2 e (rv.append (.cons r2 .nil)) .non h2.2⟩
  · exact h2.elim
theorem snd_ext {pos : Pos} (hl : (ap.endLine == pos.line) = true) (h1 : notStar a = true) (hb0 : baseOk r0 = true) (ho : PE X r0 (liftE X.K Wx ma)) (ha : PE X a (liftL X.K Wx ml)) :
    Snd X Wx (.Call (.Attribute r0 "extend" ap) [a] [] pos) (fun σ S Q E => ma σ S (fun x S1 => isLst x S1 ∧ ml σ S1 (fun ys k _ S2 => k = .ls ∧ match x with
    | .ref a => (match S2 a with
      | some (.lst ws) => ws.length + ys.length ≤ sizeLine ∧ Q .non (put S2 a (.lst (ws ++ ys)))
      | _ => False)
    | _ => False) E) E) := by
  refine Snd.plain (pe_weak (pe_bm PySem.F.plainAttrs_list PySem.F.slot_list_extend PySem.F.type_list_extend mt_extend ho (pa_cons ha pa_nil (star_cons h1)) (base_ok hb0) (bm_few h1) hl (star_cons h1) rfl) fun Z H QV ⟨σ, S, Q, E, g, h, p, px⟩ => ?_) (fun _ => rfl) (fun ⟨_, _, _, z⟩ => by cases z)
  refine ⟨σ, S, _, E, g, h, fun x S1 v1 H1 h1 g1 e1 r1 => ⟨isLst_ty g1.st r1 h1.1, ?_⟩, px⟩
  refine ⟨σ, S1, _, E, g1, h1.2, fun ys k st S2 v2 H2 h2 g2 e2 r2 => ?_, px.next e1⟩
  obtain ⟨hk, h2⟩ := h2
  subst hk
  cases x <;> first | exact h2.elim | skip
  rename_i l
  cases r1
  dsimp only at h2
  split at h2
  · rename_i ws e
    obtain ⟨vs, hv, rv⟩ := g2.st _ _ e
    obtain ⟨p1, vs1, rfl, rr1, ka1⟩ := r2.now g2.st
    exact ⟨l, p1, vs, vs1, rfl, rfl, hv, ka1, by rw [← rv.length, ← rr1.length]; exact h2.1, post_set (p.next (e1.trans e2)) g2 e (rv.append rr1) .non h2.2⟩
  · exact h2.elim
theorem snd_pop0 {pos : Pos} (hl : (ap.endLine == pos.line) = true) (hb0 : baseOk r0 = true) (ho : PE X r0 (liftE X.K Wx ma)) :
    Snd X Wx (.Call (.Attribute r0 "pop" ap) [] [] pos) (fun σ S Q E => ma σ S (fun x S1 => isLst x S1 ∧ match x with
    | .ref a => (match S1 a with
      | some (.lst ws) => (match ws[ws.length - 1]? with
        | some w => Q w (put S1 a (.lst ws.dropLast))
        | none => False)
      | _ => False)
    | _ => False) E) := by
  refine Snd.plain (pe_weak (pe_bm0 PySem.F.plainAttrs_list PySem.F.slot_list_pop PySem.F.type_list_pop mt_pop ho (base_ok hb0) hl) fun Z H QV ⟨σ, S, Q, E, g, h, p, px⟩ => ?_) (fun _ => rfl) (fun ⟨_, _, _, z⟩ => by cases z)
  refine ⟨σ, S, _, E, g, h, fun x S1 v1 H1 h1 g1 e1 r1 => ⟨isLst_ty g1.st r1 h1.1, ?_⟩, px⟩
  have h2 := h1.2
  cases x <;> first | exact h2.elim | skip
  rename_i l
  cases r1
  dsimp only at h2
  split at h2
  · rename_i ws e
    obtain ⟨vs, hv, rv⟩ := g1.st _ _ e
    split at h2
    · rename_i w ew
      obtain ⟨v, hv2, rv2⟩ := rv.get ew
      exact ⟨l, vs, v, rfl, rfl, hv, by rw [← rv.length]; exact hv2, post_set (p.next e1) g1 e rv.dropLast rv2 h2⟩
    · exact h2.elim
  · exact h2.elim
theorem snd_pop1 {pos : Pos} (hl : (ap.endLine == pos.line) = true) (h1 : notStar a = true) (hb0 : baseOk r0 = true) (ho : PE X r0 (liftE X.K Wx ma)) (ha : PE X a (liftE X.K Wx mb)) :
    Snd X Wx (.Call (.Attribute r0 "pop" ap) [a] [] pos) (fun σ S Q E => ma σ S (fun x S1 => isLst x S1 ∧ mb σ S1 (fun y S2 => match x, y with
    | .ref a, .int j => (match S2 a with
      | some (.lst ws) => -(2 ^ 63) ≤ j ∧ j < 2 ^ 63 ∧ (match ixN ws.length j with
        | some k => (match ws[k]? with
          | some w => Q w (put S2 a (.lst (ws.eraseIdx k)))
          | none => False)
        | none => False)
      | _ => False)
    | _, _ => False) E) E) := by
  refine Snd.plain (pe_weak (pe_bm PySem.F.plainAttrs_list PySem.F.slot_list_pop PySem.F.type_list_pop mt_popAt ho (pa_cons ha pa_nil (star_cons h1)) (base_ok hb0) (bm_few h1) hl (star_cons h1) rfl) fun Z H QV ⟨σ, S, Q, E, g, h, p, px⟩ => ?_) (fun _ => rfl) (fun ⟨_, _, _, z⟩ => by cases z)
  refine ⟨σ, S, _, E, g, h, fun x S1 v1 H1 h1 g1 e1 r1 => ⟨isLst_ty g1.st r1 h1.1, ?_⟩, px⟩
  refine ⟨σ, S1, _, E, g1, h1.2, fun y S2 v2 H2 h2 g2 e2 r2 => ?_, px.next e1⟩
  cases x <;> first | exact h2.elim | skip
  cases y <;> first | exact h2.elim | skip
  rename_i l j
  cases r1; cases r2
  dsimp only at h2
  split at h2
  · rename_i ws e
    obtain ⟨vs, hv, rv⟩ := g2.st _ _ e
    obtain ⟨b1, b2, h2⟩ := h2
    split at h2
    · rename_i k ek
      split at h2
      · rename_i w ew
        obtain ⟨v, hv2, rv2⟩ := rv.get ew
        have z := ixN_seq ek
        rw [rv.length] at z
        exact ⟨l, vs, j, k, v, rfl, rfl, hv, b1, b2, z.1, hv2, post_set (p.next (e1.trans e2)) g2 e (rv.eraseIdx k) rv2 h2⟩
      · exact h2.elim
    · exact h2.elim
  · exact h2.elim
end
section
variable {X : Cx} {Wx : WX} {K : PySem.W.Frag} {σ : Envr} {S S1 S' : Sto} {Z : L2.St} {H H1 H' : Hp}
variable {a b c tg : Expr} {pos : Pos} {ma mb mc : MTE} {es : List Expr} {ml ml2 : Envr → Sto → LQ → XQ → Prop}
def iSeq (K : PySem.W.Frag) (tl : TE) : TI := fun σ H R => tl σ H fun x H1 => ∃ a, x = .ref a ∧ (((∃ xs, SqL K H1 a xs) ∧ R (Itl K a) H1) ∨ ((∃ xs, SqT K H1 a xs) ∧ R (Itt K a) H1))
theorem pi_seq {l : Expr} {tl : TE} (hl : PE X l tl) : PI X tg l (iSeq X.K tl) := by
  refine ⟨fun pins s σ H R I h => ?_⟩
  refine thn (hl.run pins s σ H _ I h) fun v s1 ⟨x, H1, I1, r1, q1⟩ => ?_
  obtain ⟨a, e, ⟨⟨xs, hq⟩, q⟩ | ⟨⟨xs, hq⟩, q⟩⟩ := q1
  · subst e
    cases r1
    obtain ⟨its, rv, p, hz⟩ := I1.list hq
    refine wpAny_pyIter_list p.isList ?_
    refine ⟨s1.heap.objs.size, [s1.heap.objs.size], _, _, H1, rfl, I1.kept (t' := s1.toks) fun b o e => Heap.get?_push_of_some _ e, turn_list a _, ⟨_, Heap.get?_push_size _ rfl, rfl, rfl⟩, fun b hb => ?_, q⟩
    have e : b = s1.heap.objs.size := by simpa using hb
    subst e
    exact I1.fpOk (Nat.le_refl _) (I1.hok.fresh (Nat.le_refl _))
  · subst e
    cases r1
    obtain ⟨its, rv, p, hz⟩ := I1.tuple hq
    refine wpAny_pyIter_tuple (show s1.heap.IsTuple a its.toArray from p) ?_
    refine ⟨s1.heap.objs.size, [s1.heap.objs.size], _, _, H1, rfl, I1.kept (t' := s1.toks) fun b o e => Heap.get?_push_of_some _ e, turn_tuple a _, ⟨_, Heap.get?_push_size _ rfl, rfl, rfl⟩, fun b hb => ?_, q⟩
    have e : b = s1.heap.objs.size := by simpa using hb
    subst e
    exact I1.fpOk (Nat.le_refl _) (I1.hok.fresh (Nat.le_refl _))
theorem walk_l {p : Addr} {ws : List W} {k : LK} {st : Sto → Prop} (r : Rdb K S H ws k st (.ref p)) (hk : k ≠ .tu) : Walk K S H ws st (Itl K p) := fun S2 H2 x2 g2 h2 => by
  obtain ⟨q, vs, e, r1, r2⟩ := (r.next x2 h2).now g2
  cases e
  have z := r2.sql hk
  refine ⟨fun i w hw => ?_, vs, z, by rw [r1.length]; exact Nat.le_refl _⟩
  obtain ⟨v, hv, rv⟩ := r1.get hw
  refine ⟨⟨vs, v, z, hv⟩, fun x H3 ⟨e3, hx⟩ => ?_⟩
  subst e3
  have := hx vs z
  rw [hv] at this; cases this
  exact ⟨g2, .refl, rv⟩
theorem walk_t {p : Addr} {ws : List W} {st : Sto → Prop} (r : Rdb K S H ws .tu st (.ref p)) : Walk K S H ws st (Itt K p) := fun S2 H2 x2 g2 h2 => by
  obtain ⟨q, vs, e, r1, r2⟩ := (r.next x2 h2).now g2
  cases e
  have z : SqT K H2 p vs := SqT.of r2
  refine ⟨fun i w hw => ?_, vs, z, by rw [r1.length]; exact Nat.le_refl _⟩
  obtain ⟨v, hv, rv⟩ := r1.get hw
  refine ⟨⟨vs, v, z, hv⟩, fun x H3 ⟨e3, hx⟩ => ?_⟩
  subst e3
  have := hx vs z
  rw [hv] at this; cases this
  exact ⟨g2, .refl, rv⟩
theorem walk_r {lo : Int} {n : Nat} : Walk K S H (rngW lo n) (fun _ => True) (Itr lo n) := fun S2 H2 x2 g2 h2 => by
  refine ⟨fun i w hw => ?_, ?_⟩
  · unfold rngW at hw
    rw [List.getElem?_map] at hw
    cases e : (List.range n)[i]? with
    | none => rw [e] at hw; cases hw
    | some j =>
      rw [e] at hw
      obtain ⟨h1, h2⟩ := List.getElem?_eq_some_iff.mp e
      rw [List.getElem_range] at h2
      subst h2
      rw [List.length_range] at h1
      cases hw
      refine ⟨h1, fun x H3 ⟨e3, hx⟩ => ?_⟩
      subst e3 hx
      exact ⟨g2, .refl, .int _⟩
  · show n ≤ _
    unfold rngW
    rw [List.length_map, List.length_range]
    exact Nat.le_refl _
theorem zip_get {xs ys : List W} {i : Nat} {w : W} (h : (zipW xs ys)[i]? = some w) : ∃ x y, xs[i]? = some x ∧ ys[i]? = some y ∧ w = .tup [x, y] := by
  unfold zipW at h
  rw [List.getElem?_zipWith] at h
  cases e1 : xs[i]? with
  | none => rw [e1] at h; cases h
  | some x =>
    cases e2 : ys[i]? with
    | none => rw [e1, e2] at h; cases h
    | some y => rw [e1, e2] at h; cases h; exact ⟨x, y, rfl, rfl, rfl⟩
theorem rep_pair {T : Addr} {x y : W} {u v : V} (g : StOk K S H) (hT : H T = none) (r1 : RepW K H x u) (r2 : RepW K H y v) : StOk K S (upd H T (.tup [u, v])) ∧ Ext S H S (upd H T (.tup [u, v])) ∧ RepW K (upd H T (.tup [u, v])) (.tup [x, y]) (.ref T) := by
  have e : Ext S H S (upd H T (.tup [u, v])) := Ext.fresh hT
  exact ⟨g.fresh hT, e, .tup upd_same (.cons (e.rep g r1) (.cons (e.rep g r2) .nil))⟩
theorem walk_z {p q : Addr} {xs ys : List W} {k1 k2 : LK} {st1 st2 : Sto → Prop} (r1 : Rdb K S H xs k1 st1 (.ref p)) (r2 : Rdb K S H ys k2 st2 (.ref q)) (h1 : k1 ≠ .tu) (h2 : k2 ≠ .tu) : Walk K S H (zipW xs ys) (fun S => st1 S ∧ st2 S) (Itz K p q) := fun S2 H2 x2 g2 hs => by
  obtain ⟨p', vs, e, a1, b1⟩ := (r1.next x2 hs.1).now g2
  cases e
  obtain ⟨q', us, e, a2, b2⟩ := (r2.next x2 hs.2).now g2
  cases e
  have z1 := b1.sql h1
  have z2 := b2.sql h2
  refine ⟨fun i w hw => ?_, vs, us, z1, z2, ?_⟩
  · obtain ⟨x, y, hx, hy, rfl⟩ := zip_get hw
    obtain ⟨v, hv, rv⟩ := a1.get hx
    obtain ⟨u, hu, ru⟩ := a2.get hy
    refine ⟨⟨vs, us, v, u, z1, z2, hv, hu⟩, ?_⟩
    rintro t H3 ⟨T, x', y', rfl, hT, rfl, q1, q2⟩
    have e1 := q1 vs z1
    have e2 := q2 us z2
    rw [hv] at e1; cases e1
    rw [hu] at e2; cases e2
    exact rep_pair g2 hT rv ru
  · unfold zipW
    rw [List.length_zipWith, ← a1.length, ← a2.length]
    omega
theorem walk_zt {p q : Addr} {xs ys : List W} {st1 st2 : Sto → Prop} (r1 : Rdb K S H xs .tu st1 (.ref p)) (r2 : Rdb K S H ys .tu st2 (.ref q)) : Walk K S H (zipW xs ys) (fun S => st1 S ∧ st2 S) (RZ.ItzT K p q) := fun S2 H2 x2 g2 hs => by
  obtain ⟨p', vs, e, a1, b1⟩ := (r1.next x2 hs.1).now g2
  cases e
  obtain ⟨q', us, e, a2, b2⟩ := (r2.next x2 hs.2).now g2
  cases e
  have z1 : SqT K H2 p vs := SqT.of b1
  have z2 : SqT K H2 q us := SqT.of b2
  refine ⟨fun i w hw => ?_, vs, us, z1, z2, ?_⟩
  · obtain ⟨x, y, hx, hy, rfl⟩ := zip_get hw
    obtain ⟨v, hv, rv⟩ := a1.get hx
    obtain ⟨u, hu, ru⟩ := a2.get hy
    refine ⟨⟨vs, us, v, u, z1, z2, hv, hu⟩, ?_⟩
    rintro t H3 ⟨T, x', y', rfl, hT, rfl, q1, q2⟩
    have e1 := q1 vs z1
    have e2 := q2 us z2
    rw [hv] at e1; cases e1
    rw [hu] at e2; cases e2
    exact rep_pair g2 hT rv ru
  · unfold zipW
    rw [List.length_zipWith, ← a1.length, ← a2.length]
    omega
theorem walk_e {p : Addr} {xs : List W} {k : LK} {st : Sto → Prop} (r : Rdb K S H xs k st (.ref p)) (hk : k ≠ .tu) : Walk K S H (enmW xs) st (Ite K p) := fun S2 H2 x2 g2 hs => by
  obtain ⟨p', vs, e, a1, b1⟩ := (r.next x2 hs).now g2
  cases e
  have z1 := b1.sql hk
  refine ⟨fun i w hw => ?_, vs, z1, ?_⟩
  · unfold enmW at hw
    rw [List.getElem?_zipWith] at hw
    cases e2 : xs[i]? with
    | none => rw [e2] at hw; cases h : (List.range xs.length)[i]? <;> (rw [h] at hw; cases hw)
    | some x =>
      have hi : i < xs.length := (List.getElem?_eq_some_iff.mp e2).1
      rw [e2, List.getElem?_range hi] at hw
      cases hw
      obtain ⟨v, hv, rv⟩ := a1.get e2
      refine ⟨⟨vs, v, z1, hv⟩, ?_⟩
      rintro t H3 ⟨T, x', rfl, hT, rfl, q1⟩
      have e1 := q1 vs z1
      rw [hv] at e1; cases e1
      exact rep_pair g2 hT (.int _) rv
  · unfold enmW
    rw [List.length_zipWith, List.length_range, ← a1.length]
    omega
theorem pi_lstL (ha : PE X a (liftL X.K Wx ml)) : PI X tg a (liftI X.K Wx fun σ S Q E => ml σ S (fun ws _ st S1 => Q ws st S1) E) := by
  refine pi_weak (pi_seq ha) fun Z H R ⟨σ, S, Q, E, g, h, p, px⟩ => ?_
  refine ⟨σ, S, _, E, g, h, fun ws k st S1 v H1 h1 g1 e1 r1 => ?_, px⟩
  obtain ⟨q, vs, rfl, rr, ka⟩ := r1.now g1.st
  refine ⟨q, rfl, ?_⟩
  cases k with
  | ls => exact .inl ⟨⟨vs, SqL.of ka⟩, p _ _ _ _ _ h1 g1 e1 (walk_l r1 (fun z => by cases z))⟩
  | ro => exact .inl ⟨⟨vs, ka⟩, p _ _ _ _ _ h1 g1 e1 (walk_l r1 (fun z => by cases z))⟩
  | tu => exact .inr ⟨⟨vs, SqT.of ka⟩, p _ _ _ _ _ h1 g1 e1 (walk_t r1)⟩
theorem pi_rngL {p : Pos} (hg : Gl X "range") (hm : X.mg "range" = none) (h1 : notStar a = true) (ha : PE X a (liftE X.K Wx ma)) :
    PI X tg (.Call (.Name "range" p) [a] [] pos) (liftI X.K Wx fun σ S Q E => ma σ S (fun x S1 => match x with
    | .int n => rngOk n ∧ Q (rngW 0 n.toNat) (fun _ => True) S1
    | _ => False) E) := by
  refine pi_weak (pi_range1 hg hm (pa_cons ha pa_nil (star_cons h1)) (by rw [star_cons h1]; rfl)) fun Z H R ⟨σ, S, Q, E, g, h, p, px⟩ => ?_
  refine ⟨σ, S, _, E, g, h, fun w S1 v H1 q g1 e1 r1 => ?_, px⟩
  cases w <;> first | exact q.elim | skip
  cases r1
  exact ⟨_, rfl, q.1.1, q.1.2, p _ _ _ _ _ q.2 g1 e1 walk_r⟩
theorem turn_rangeL {P : Program} {w : World} {K : PySem.W.Frag} {tg : Expr} (it : Addr) (lo : Int) (n : Nat) : Turn P w K tg (Itr lo n) [it] it (fun i h => IsLongIter h it (lo + (i : Nat) * 1) ((n : Int) - (i : Nat)) 1) where
  mem := by simp
  obj := fun i h st b hb => by
    have e : b = it := by simpa using hb
    subst e
    exact ⟨_, st, fun v z => by
      have z' : Data.fields _ = Data.cell v := z
      cases z'⟩
  keep := fun i h h' st k => k it (by simp) _ st
  item := by
    intro X hP hw hK hc i pins s σ H E I hf st hg
    subst hP hw hK
    obtain ⟨f0, f1, f2, f3, f4, f5⟩ := hf it (by simp)
    have W := Walks.longrange (prog := X.prog) (w := X.w) (I.ok.hd hc) it lo 1 n
    refine W.item i s _ _ hg st fun v h' tk hv st' kk => ?_
    obtain ⟨t, rfl⟩ := hv
    have I1 : Inv X pins σ H { s with heap := h', toks := tk } := I.turned (fun b o hb e => kk b o (by simpa using hb) e) f0 f1 f3 f4 f5
    refine ⟨_, rfl, go_of (s := { s with heap := h', toks := tk }) (n := "longrange_iterator") st' rfl rfl (by decide) ⟨.int (lo + i), H, I1, ⟨t, ?_⟩, ⟨rfl, rfl⟩, st', fun b hb => (hf b hb).1⟩⟩
    rw [Int.mul_one]
  done := by
    intro X hP hw hK hc i pins s σ H E I hf st hg
    subst hP hw hK
    obtain ⟨f0, f1, f2, f3, f4, f5⟩ := hf it (by simp)
    exact wpAny_pyNext_long_end (I.ok.hd hc) st (by have : n ≤ i := hg; omega) fun h' eb => ⟨rfl, I.turned (t' := s.toks) (fun b o hb e => eb b o hb e) f0 f1 f3 f4 f5⟩
  self := fun _ _ _ _ _ st h => wpAny_pyIter_longiter st h
theorem range_itW {pins : List (Addr × Obj)} {s : Shared} {R : It → Hp → Prop} {E : Value → Shared → Prop} {σ : L2.St} {lo hi : Int} {t u v : Tok} {tk : Nat} (I : Inv X pins σ H s)
    (q : R (Itr lo (hi - lo).toNat) H) : wpAny (model X.prog X.w) X.A (pyIter (.ref s.heap.objs.size)) (PIE X pins σ tg R) E { s with heap := s.heap.push { cls := .type "range", data := .fields #[.int lo t, .int hi u, .int 1 v] }, toks := tk } := by
  have I1 : Inv X pins σ H { s with heap := s.heap.push { cls := .type "range", data := .fields #[.int lo t, .int hi u, .int 1 v] }, toks := tk } := I.kept fun b o e => Heap.get?_push_of_some _ e
  have e1 : lo + ((0 : Nat) : Int) * 1 = lo := by simp
  have e2 : (((hi - lo).toNat : Nat) : Int) - ((0 : Nat) : Int) = Builtin.Range.rangeSize lo hi 1 := by rw [rangeSize_one]; split <;> omega
  cases hs : Builtin.Range.small lo hi 1 with
  | true =>
    refine wpAny_pyIter_range (IsRange.new ..) hs ?_
    refine pi_one (tk := tk) I1 _ (turn_range _ lo (hi - lo).toNat) ?_ q
    show IsRangeIter _ _ (lo + ((0 : Nat) : Int) * 1) ((((hi - lo).toNat : Nat) : Int) - ((0 : Nat) : Int)) 1
    rw [e1, e2]
    exact Heap.get?_push_size _ rfl
  | false =>
    refine wpAny_pyIter_longrange (IsRange.new ..) hs ?_
    refine pi_one (tk := tk) I1 _ (turn_rangeL _ lo (hi - lo).toNat) ?_ q
    show IsLongIter _ _ (lo + ((0 : Nat) : Int) * 1) ((((hi - lo).toNat : Nat) : Int) - ((0 : Nat) : Int)) 1
    rw [e1, e2]
    exact Heap.get?_push_size _ rfl
def iRng2W (ta : TA) : TI := fun σ H R => ta σ H fun vs H1 => ∃ i j : Int, vs = [.int i, .int j] ∧ R (Itr i (j - i).toNat) H1
theorem pi_range2W {ta : TA} {p pos : Pos} (hg : Gl X "range") (hm : X.mg "range" = none) (ha : PA X [a, b] ta) (hs : starEach [a, b] X.env = [(false, eval a X.env), (false, eval b X.env)] := by rfl) (hs2 : starEach [b] X.env = [(false, eval b X.env)] := by rfl) :
    PI X tg (.Call (.Name "range" p) [a, b] [] pos) (iRng2W ta) := by
  refine ⟨fun pins s σ H R I h => ?_⟩
  refine Call_ (ld_blt I hg hm boot_range (PyProof.Rows.callWith_type1 (thn (ha.run pos pins s σ H _ I h) fun us s1 ⟨vs, H1, I1, r1, q1⟩ => ?_) (by rw [hs, hs2]) (by rw [hs2]; rfl)))
  obtain ⟨i, j, e, q⟩ := q1
  subst e
  cases r1 with
  | cons r rr =>
    cases rr with
    | cons r' rr =>
      cases rr
      obtain ⟨t, rfl⟩ := r
      obtain ⟨t', rfl⟩ := r'
      exact call_range_2 (range_itW I1 q)
theorem pi_rng2L {p : Pos} (hg : Gl X "range") (hm : X.mg "range" = none) (h1 : notStar a = true) (h2 : notStar b = true) (ha : PE X a (liftE X.K Wx ma)) (hb : PE X b (liftE X.K Wx mb)) :
    PI X tg (.Call (.Name "range" p) [a, b] [] pos) (liftI X.K Wx fun σ S Q E => ma σ S (fun x S1 => mb σ S1 (fun y S2 => match x, y with
    | .int i, .int j => rngOk2 i ∧ rngOk2 j ∧ Q (rngW i (j - i).toNat) (fun _ => True) S2
    | _, _ => False) E) E) := by
  refine pi_weak (pi_range2W hg hm (pa_cons ha (pa_cons hb pa_nil (star_cons h2)) (star_cons h1)) (by rw [star_cons h1, star_cons h2]; rfl) (by rw [star_cons h2]; rfl)) fun Z H R ⟨σ, S, Q, E, g, h, p, px⟩ => ?_
  refine ⟨σ, S, _, E, g, h, fun w S1 v H1 q g1 e1 r1 => ?_, px⟩
  refine ⟨σ, S1, _, E, g1, q, fun u S2 t H2 q2 g2 e2 r2 => ?_, px.next e1⟩
  cases w <;> first | exact q2.elim | skip
  cases u <;> first | exact q2.elim | skip
  cases r1; cases r2
  exact ⟨_, _, rfl, p _ _ _ _ _ q2.2.2 g2 (e1.trans e2) walk_r⟩
theorem pi_zipL {tgs : List Expr} {kk : Nat} {tpos p : Pos} (hg : Gl X "zip") (hm : X.mg "zip" = none) (h1 : notStar a = true) (h2 : notStar b = true) (ha : PE X a (liftL X.K Wx ml)) (hb : PE X b (liftL X.K Wx ml2)) :
    PI X (.Tuple tgs kk tpos) (.Call (.Name "zip" p) [a, b] [] pos) (liftI X.K Wx fun σ S Q E => ml σ S (fun xs k1 s1 S1 => ml2 σ S1 (fun ys k2 s2 S2 => ((k1 ≠ .tu ∧ k2 ≠ .tu) ∨ (k1 = .tu ∧ k2 = .tu)) ∧ s1 S2 ∧ Q (zipW xs ys) (fun S => s1 S ∧ s2 S) S2) E) E) := by
  refine pi_weak (RZ.pi_zipA hg hm (pa_cons ha (pa_cons hb pa_nil (star_cons h2)) (star_cons h1)) (star_cons h1) (by rw [star_cons h2]; rfl)) fun Z H R ⟨σ, S, Q, E, g, h, p, px⟩ => ?_
  refine ⟨σ, S, _, E, g, h, fun xs k1 s1 S1 v H1 q g1 e1 r1 => ?_, px⟩
  refine ⟨σ, S1, _, E, g1, q, fun ys k2 s2 S2 t H2 q2 g2 e2 r2 => ?_, px.next e1⟩
  obtain ⟨hk, hst, hq⟩ := q2
  have r1' := r1.next e2 hst
  obtain ⟨p1, vs, rfl, rr1, ka1⟩ := r1'.now g2.st
  obtain ⟨p2, us, rfl, rr2, ka2⟩ := r2.now g2.st
  rcases hk with ⟨t1, t2⟩ | ⟨t1, t2⟩
  · exact ⟨p1, p2, vs, us, rfl, .inl ⟨ka1.sql t1, ka2.sql t2, p _ _ _ _ _ hq g2 (e1.trans e2) (walk_z r1' r2 t1 t2)⟩⟩
  · subst t1 t2
    exact ⟨p1, p2, vs, us, rfl, .inr ⟨SqT.of ka1, SqT.of ka2, p _ _ _ _ _ hq g2 (e1.trans e2) (walk_zt r1' r2)⟩⟩
theorem pi_enmL {tgs : List Expr} {kk : Nat} {tpos p : Pos} (hg : Gl X "enumerate") (hm : X.mg "enumerate" = none) (h1 : notStar a = true) (ha : PE X a (liftL X.K Wx ml)) :
    PI X (.Tuple tgs kk tpos) (.Call (.Name "enumerate" p) [a] [] pos) (liftI X.K Wx fun σ S Q E => ml σ S (fun xs k st S1 => k ≠ .tu ∧ Q (enmW xs) st S1) E) := by
  refine pi_weak (pi_enum hg hm (pa_cons ha pa_nil (star_cons h1)) (by rw [star_cons h1]; rfl)) fun Z H R ⟨σ, S, Q, E, g, h, p, px⟩ => ?_
  refine ⟨σ, S, _, E, g, h, fun xs k st S1 v H1 q g1 e1 r1 => ?_, px⟩
  obtain ⟨p1, vs, rfl, rr1, ka1⟩ := r1.now g1.st
  exact ⟨p1, vs, rfl, ka1.sql q.1, p _ _ _ _ _ q.2 g1 e1 (walk_e r1 q.1)⟩
theorem pg_nmL {x : Str} {i : Nat} (hN : X.N.Nodup) (hi : X.N[i]? = some x) (hx : Loc X.env.scope x) (hf : X.fn x = true ∨ X.env.scope.names.lookup x = some .local) :
    PG X (.Name x pos) (liftG X.K [i] fun w σ S Q _ => Q (σ.set i (some w)) S) :=
  pg_weak (pg_name hN hi hx hf) fun v Z H Q ⟨w, σ, S, QM, g, r, h, p⟩ => p _ _ _ _ h (g.set r i) .refl ⟨by simp, fun j hj => List.getElem?_set_ne (fun z => hj (by rw [z]; exact List.mem_singleton_self _))⟩
theorem pgs_nilL : PGs X [] (liftGs X.K [] fun ws σ S Q _ => match ws with
    | [] => Q σ S
    | _ => False) := pgs_weak pgs_nil fun vs Z H Q ⟨ws, σ, S, QM, g, r, h, p⟩ => by
  cases r with
  | nil => exact ⟨rfl, p _ _ _ _ h g .refl ⟨rfl, fun _ _ => rfl⟩⟩
  | cons _ _ => exact h.elim
variable {mg : W → Envr → Sto → (Envr → Sto → Prop) → XQ → Prop} {mgs : List W → Envr → Sto → (Envr → Sto → Prop) → XQ → Prop}
theorem asg_cons (h : notStar a = true) : (assignEach (a :: es) X.env) = (false, assign a X.env) :: assignEach es X.env := by
  cases a <;> first | rfl | (simp [notStar] at h)
theorem pgs_consL {sl1 sl2 : List Nat} (hn : notStar a = true) (h1 : PG X a (liftG X.K sl1 mg)) (h2 : PGs X es (liftGs X.K sl2 mgs)) : PGs X (a :: es) (liftGs X.K (sl1 ++ sl2) fun ws σ S Q E => match ws with
    | w :: r => mg w σ S (fun σ' S' => mgs r σ' S' Q E) E
    | _ => False) := by
  refine pgs_weak (pgs_cons h1 h2 (by rw [asg_cons hn]; rfl)) fun vs Z H Q ⟨ws, σ, S, QM, g, r, h, p⟩ => ?_
  cases r with
  | nil => exact h.elim
  | cons r1 rr =>
    refine ⟨_, _, rfl, _, σ, S, _, g, r1, h, fun σ' S' Z' H' q g' e' o' => ?_⟩
    exact ⟨_, σ', S', QM, g', e'.reps g.st rr, q, fun σ2 S2 Z2 H2 q2 g2 e2 o2 => p _ _ _ _ q2 g2 (e'.trans e2) ⟨o2.1.trans o'.1, fun j hj => by
      rw [List.mem_append, not_or] at hj
      rw [o2.2 j hj.2, o'.2 j hj.1]⟩⟩
theorem asg_len : ∀ {es : List Expr} , (assignEach es X.env).length = es.length
  | [] => rfl
  | a :: es => by
    have ih := @asg_len es
    cases a <;> (show (assignEach es X.env).length + 1 = es.length + 1; rw [ih])
theorem asg_star : ∀ {es : List Expr}, noStars es = true → (assignEach es X.env).findIdx? (·.1) = none
  | [], _ => rfl
  | a :: es, h => by
    simp only [noStars, List.all_cons, Bool.and_eq_true] at h
    rw [asg_cons h.1, List.findIdx?_cons, asg_star (es := es) h.2]; rfl
theorem pg_tupL {k n : Nat} {sl : List Nat} (hc : X.calm = true) (hs : noStars es = true) (hl : es.length = n) (h : PGs X es (liftGs X.K sl mgs)) : PG X (.Tuple es k pos) (liftG X.K sl fun w σ S Q E => match w with
    | .tup ws => ws.length = n ∧ mgs ws σ S Q E
    | _ => False) := by
  refine pg_weak (pg_tup (n := n) hc h (by rw [asg_len]; exact hl) (asg_star hs)) fun v Z H Q ⟨w, σ, S, QM, g, r, h, p⟩ => ?_
  cases w <;> first | exact h.elim | skip
  cases r with
  | tup q rr => exact ⟨_, _, rfl, SqT.of q, by rw [← rr.length]; exact h.1, _, σ, S, QM, g, rr, h.2, p⟩
theorem StOk.setDk {p : Addr} {kvs : List (Key × W)} {kvs0 : List (Key × W)} {vs : List (Key × V)} (g : StOk K S H) (h : S p = some (.dk false kvs0)) (r : RepF K H kvs vs) : StOk K (put S p (.dk false kvs)) (upd H p (.dK vs)) := by
  have x : Ext S H (put S p (.dk false kvs)) (upd H p (.dK vs)) := Ext.write (by rw [h]; exact fun z => by cases z) (g.nfK h)
  exact g.put_at x (fun a v h e => by rw [upd_ne h]; exact e) ⟨vs, upd_same, r.mono (x.stay g)⟩
theorem StOk.setDt {p : Addr} {kvs : List (List Key × W)} {kvs0 : List (List Key × W)} {vs : List (List Key × V)} (g : StOk K S H) (h : S p = some (.dt false kvs0)) (r : RepF K H kvs vs) : StOk K (put S p (.dt false kvs)) (upd H p (.dT vs)) := by
  have x : Ext S H (put S p (.dt false kvs)) (upd H p (.dT vs)) := Ext.write (by rw [h]; exact fun z => by cases z) (g.nfT h)
  exact g.put_at x (fun a v h e => by rw [upd_ne h]; exact e) ⟨vs, upd_same, r.mono (x.stay g)⟩
theorem setW_of {x y w : W} {vx vy v : V} {Q : Sto → Prop} {QH : Hp → Prop} (g : StOk K S H) (rx : RepW K H x vx) (ry : RepW K H y vy) (r : RepW K H w v) (h : setW x y w S Q) (p : ∀ S' H', Q S' → StOk K S' H' → Ext S H S' H' → QH H') :
    rSetL vx vy v H QH ∨ rSetD vx vy v H QH := by
  cases x <;> first | exact h.elim | skip
  rename_i l
  cases rx
  unfold setW at h
  dsimp only at h
  split at h
  · rename_i ws e
    obtain ⟨vs, hv, rv⟩ := g _ _ e
    cases y <;> first | exact h.elim | skip
    rename_i i
    cases ry
    dsimp only at h
    split at h
    · rename_i j ej
      have x : Ext S H (put S l (.lst (ws.set j w))) (upd H l (.lst (vs.set j v))) := Ext.write (by rw [e]; exact fun z => by cases z) (g.nfL e)
      exact .inl ⟨l, vs, i, j, rfl, rfl, hv, by rw [← rv.length]; exact ej, p _ _ h (g.setLst e (rv.set r j)) x⟩
    · exact h.elim
  · rename_i kvs e
    obtain ⟨vs, hv, rv⟩ := g _ _ e
    split at h
    · rename_i k ek
      have rv2 := rv.put (k := k) r
      have x : Ext S H (put S l (.dk false (putD kvs k w))) (upd H l (.dK (putK vs k v))) := Ext.write (by rw [e]; exact fun z => by cases z) (g.nfK e)
      exact .inr ⟨l, _, rfl, .inl ⟨vs, k, hv, keyW_rep ry ek, by rw [← rv.length]; exact h.1, rfl⟩, p _ _ h.2 (g.setDk e rv2) x⟩
    · exact h.elim
  · rename_i kvs e
    obtain ⟨vs, hv, rv⟩ := g _ _ e
    split at h
    · rename_i k ek
      have rv2 := rv.put (k := k) r
      obtain ⟨b, e2, e3⟩ := tkeyW_rep ry ek
      have x : Ext S H (put S l (.dt false (putD kvs k w))) (upd H l (.dT (putK vs k v))) := Ext.write (by rw [e]; exact fun z => by cases z) (g.nfT e)
      exact .inr ⟨l, _, rfl, .inr ⟨vs, k, b, hv, e2, e3, by rw [← rv.length]; exact h.1, rfl⟩, p _ _ h.2 (g.setDt e rv2) x⟩
    · exact h.elim
  · exact h.elim
theorem pg_subL (hu : X.A.units + 1 < cLine) (hs : notSlice b = true) (ho : PE X a (liftE X.K Wx ma)) (hi : PE X b (liftE X.K Wx mb)) : PG X (.Subscript a b pos) (liftG X.K [] fun w σ S Q E => ma σ S (fun x S1 => mb σ S1 (fun y S2 => setW x y w S2 (Q σ)) E) E) := by
  refine pg_weak (pg_sub ho hi (PSet.or set_list (set_dict hu)) (by intro v; cases b <;> first | rfl | (simp [notSlice] at hs))) fun v Z H Q ⟨w, σ, S, QM, g, r, h, p⟩ => ?_
  refine ⟨σ, S, _, noX, g, h, fun x S1 v1 H1 h1 g1 e1 r1 => ?_, PostX.no⟩
  refine ⟨σ, S1, _, noX, g1, h1, fun y S2 v2 H2 h2 g2 e2 r2 => ?_, PostX.no⟩
  exact setW_of g2.st (e2.rep g1.st r1) r2 ((e1.trans e2).rep g.st r) h2 fun S' H' q s x => p _ _ _ _ q (g2.next x s) ((e1.trans e2).trans x) ⟨rfl, fun _ _ => rfl⟩
end
section
variable {K : PySem.W.Frag} {σ : Envr} {S S1 S' : Sto} {Z : L2.St} {H H1 H' : Hp}
theorem wipe_get (Z : L2.St) (i : Nat) : ∀ vs : List Nat, (L2.wipe Z vs)[i]? = if i ∈ vs ∧ i < Z.length then some none else Z[i]?
  | [] => by simp [L2.wipe]
  | v :: vs => by
    have ih := wipe_get Z i vs
    unfold L2.wipe
    rw [List.getElem?_set, ih, wipe_length]
    by_cases h : v = i
    · subst h
      by_cases hl : v < Z.length <;> simp [hl]
    · have h' : ¬ i = v := fun z => h z.symm
      simp [h, h']
theorem wipeW_get (σ : Envr) (i : Nat) : ∀ vs : List Nat, (wipeW σ vs).length = σ.length ∧ (wipeW σ vs)[i]? = if i ∈ vs ∧ i < σ.length then some none else σ[i]?
  | [] => by simp [wipeW]
  | v :: vs => by
    obtain ⟨il, ih⟩ := wipeW_get σ i vs
    unfold wipeW
    refine ⟨by rw [List.length_set, il], ?_⟩
    rw [List.getElem?_set, ih, il]
    by_cases h : v = i
    · subst h
      by_cases hl : v < σ.length <;> simp [hl]
    · have h' : ¬ i = v := fun z => h z.symm
      simp [h, h']
theorem Gd.wipe (g : Gd K σ S Z H) (vs : List Nat) : Gd K (wipeW σ vs) S (L2.wipe Z vs) H where
  len := by rw [(wipeW_get σ 0 vs).1, wipe_length]; exact g.len
  sl := fun i w e => by
    rw [(wipeW_get σ i vs).2] at e
    rw [wipe_get, ← g.len]
    split at e
    · cases e
    · rename_i h
      rw [if_neg h]
      exact g.sl i w e
  st := g.st
theorem wipe_eq {Z Z' : L2.St} {sl vs : List Nat} (h : OutEq sl (L2.wipe Z vs) Z') (hs : ∀ i ∈ sl, i ∈ vs) : L2.wipe Z' vs = L2.wipe Z vs := by
  have hl : Z'.length = Z.length := by rw [h.1, wipe_length]
  refine List.ext_getElem? fun i => ?_
  rw [wipe_get, wipe_get, hl]
  by_cases hi : i ∈ vs
  · by_cases hz : i < Z.length
    · simp [hi, hz]
    · have e1 : Z'[i]? = none := List.getElem?_eq_none (by omega)
      have e2 : Z[i]? = none := List.getElem?_eq_none (by omega)
      simp [hi, hz]
      omega
  · have e := h.2 i (fun z => hi (hs i z))
    rw [wipe_get] at e
    simp only [hi, false_and, if_false] at e ⊢
    exact e
theorem Stay.out {D : Addr} {vs us : List V} (h : H D = some (.lst vs)) : Stay K H (upd H D (.lst us)) := by
  refine ⟨fun a xs q => ?_, fun a xs q => ?_⟩
  · have : a ≠ D := fun z => by rw [z, h] at q; cases q
    rw [upd_ne this]; exact q
  · rcases q with ⟨o, q⟩ | q
    · have : a ≠ D := fun z => by rw [z, h] at q; cases q
      exact .inl ⟨o, by rw [upd_ne this]; exact q⟩
    · exact .inr q
theorem RepO.stay {o : MO} {a : Addr} (r : RepO K H o a) (s : Stay K H H') (n : ∀ v, H a = some v → H' a = some v) : RepO K H' o a := by
  cases o with
  | lst ws => obtain ⟨vs, e, t⟩ := r; exact ⟨vs, n _ e, t.mono s⟩
  | ins C fs => obtain ⟨dx, vs, e, t⟩ := r; exact ⟨dx, vs, n _ e, t.mono s⟩
  | dk fz kvs =>
    obtain ⟨vs, e, t⟩ := r
    refine ⟨vs, ?_, t.mono s⟩
    cases fz with
    | false => exact n _ e
    | true => obtain ⟨o, e⟩ := e; exact ⟨o, n _ e⟩
  | dt fz kvs =>
    obtain ⟨vs, e, t⟩ := r
    refine ⟨vs, ?_, t.mono s⟩
    cases fz with
    | false => exact n _ e
    | true => obtain ⟨o, e⟩ := e; exact ⟨o, n _ e⟩
theorem StOk.out {D : Addr} {vs us : List V} (g : StOk K S H) (hS : S D = none) (h : H D = some (.lst vs)) : StOk K S (upd H D (.lst us)) := fun a o e => by
  have : a ≠ D := fun z => by rw [z, hS] at e; cases e
  exact (g a o e).stay (Stay.out h) fun v q => by rw [upd_ne this]; exact q
theorem Ext.out {D : Addr} {o : HO} (x : Ext S H S' H') (h : H D = none) : Ext S H S' (upd H' D o) :=
  ⟨fun a u e n => by rw [upd_ne (ne_of_none e h)]; exact x.fr a u e n, x.dm, fun a n => upd_th (x.th a n), fun a _ _ e => by rw [upd_ne (ne_of_none e h)]; exact x.fz a _ _ e⟩
theorem Ext.keepNone (x : Ext S H S' H') {a : Addr} {o : HO} (hS : S a = none) (h : H a = some o) : S' a = none ∧ H' a = some o := by
  refine ⟨?_, x.fr a o h hS⟩
  cases q : S' a with
  | none => rfl
  | some m =>
    rcases x.dm a (by rw [q]; exact fun z => by cases z) with z | z
    · exact (z hS).elim
    · rw [z] at h; cases h
end
section
variable {X : Cx} {Wx : WX} {σ : Envr} {S : Sto} {Z : L2.St} {H : Hp}
variable {elt tg iter t : Expr} {scope : Scope} {pos : Pos} {own : List Nat} {sl : List Nat}
variable {mi : Envr → Sto → (List W → (Sto → Prop) → Sto → Prop) → XQ → Prop} {mg : W → Envr → Sto → (Envr → Sto → Prop) → XQ → Prop} {me mc : MTE}
abbrev noW : WX := fun _ _ _ _ => False
def mComp (mi : Envr → Sto → (List W → (Sto → Prop) → Sto → Prop) → XQ → Prop) (mg : W → Envr → Sto → (Envr → Sto → Prop) → XQ → Prop) (mb : List W → (List W → Sto → Prop) → (List W → Sto → Prop) → Envr → Sto → Prop) (own : List Nat) : Envr → Sto → (List W → Sto → Prop) → XQ → Prop := fun σ S Q E =>
  mi σ S (fun xs st S1 => ∃ I : Nat → List W → Sto → Prop, (∃ S2, Sub S2 S1 ∧ I 0 [] S2) ∧
      (∀ k acc S3 x, xs[k]? = some x → I k acc S3 → st S3 ∧ mg x (wipeW σ own) S3 (fun σ' S4 => mb acc (I (k + 1)) (I (k + 1)) σ' S4) noX) ∧
      ∀ acc S3, I xs.length acc S3 → st S3 ∧ Q acc S3) E
theorem lift_comp {wi : TI} {g : TG} {tt : TT} {te : TE} {mb : List W → (List W → Sto → Prop) → (List W → Sto → Prop) → Envr → Sto → Prop}
    (hi : ∀ Z H R, liftI X.K Wx mi Z H R → wi Z H R) (hg : ∀ v Z H Q, liftG X.K sl mg v Z H Q → g v Z H Q) (hsl : ∀ i ∈ sl, i ∈ own)
    (turn : ∀ (acc : List W) (vacc : List V) (D : Addr) (I : List W → Sto → Prop) (σ : Envr) (S : Sto) (Z : L2.St) (H : Hp) (Nx : Hp → Prop), Gd X.K σ S Z H → S D = none → H D = some (.lst vacc) → RepWs X.K H acc vacc → mb acc I I σ S →
      (∀ acc' vacc' S' H', I acc' S' → StOk X.K S' H' → S' D = none → H' D = some (.lst vacc') → RepWs X.K H' acc' vacc' → (∀ S0 H0, Ext S0 H0 S H → H0 D = none → Ext S0 H0 S' H') → Nx H') →
      tt Z H fun b H3 => if b = true then te Z H3 fun y H4 => ∃ acc, H4 D = some (.lst acc) ∧ acc.length < sizeLine ∧ Nx (upd H4 D (.lst (acc ++ [y]))) else Nx H3) :
    ∀ Z H QV, liftT X.K Wx (mComp mi mg mb own) Z H QV → tLc wi g tt te own Z H QV := by
  rintro Z H QV ⟨σ, S, Q, E, gd, hm, p, px⟩
  refine hi _ _ _ ⟨σ, S, _, E, gd, hm, fun xs st S1 J H1 ⟨I, ⟨S2, sub, h0⟩, hstep, hend⟩ g1 e1 wk D hD => ?_, px⟩
  have hSD : S1 D = none := g1.st.free hD
  refine ⟨fun i m H' => m = xs.length - i ∧ i ≤ xs.length ∧ ∃ acc S' vacc, H' D = some (.lst vacc) ∧ RepWs X.K H' acc vacc ∧ S' D = none ∧ StOk X.K S' H' ∧ Ext S1 H1 S' H' ∧ I i acc S', ⟨xs.length, by simp, Nat.zero_le _, [], S2, [], upd_same, .nil, ?_, ?_, ?_, h0⟩, ?_⟩
  · cases q : S2 D with
    | none => rfl
    | some o => rw [sub D o q] at hSD; cases hSD
  · exact (g1.st.fresh hD).sub sub
  · exact (Ext.fresh hD).trans (Ext.sub sub)
  · rintro i m H' ⟨rfl, hi', acc, S', vacc, hd, ra, hsd, sok, x1, hI⟩
    by_cases hlt : i < xs.length
    · have hx : xs[i]? = some xs[i] := by simp [hlt]
      obtain ⟨hst, hgt⟩ := hstep i acc S' _ hx hI
      obtain ⟨hgo, hy⟩ := (wk S' H' x1 sok hst).1 i _ hx
      refine .inr ⟨hgo, fun H'' => ∃ acc S' vacc, H'' D = some (.lst vacc) ∧ RepWs X.K H'' acc vacc ∧ S' D = none ∧ StOk X.K S' H'' ∧ Ext S1 H1 S' H'' ∧ I (i + 1) acc S', fun H'' n => ⟨xs.length - (i + 1), by omega, rfl, hlt, n⟩, fun v H3 hyl => ?_⟩
      obtain ⟨s3, x3, r3⟩ := hy v H3 hyl
      have gw : Gd X.K (wipeW σ own) S' (L2.wipe Z own) H3 := (gd.wipe own).next ((e1.trans x1).trans x3) s3
      refine hg _ _ _ _ ⟨_, _, S', _, gw, r3, hgt, fun σ4 S4 Z4 H4 hb g4 e4 o4 => ⟨wipe_eq o4 hsl, ?_⟩⟩
      obtain ⟨k1, k2⟩ := x3.keepNone hsd hd
      obtain ⟨k3, k4⟩ := e4.keepNone k1 k2
      refine turn acc vacc D (I (i + 1)) σ4 S4 Z4 H4 _ g4 k3 k4 (e4.reps s3 (x3.reps sok ra)) hb fun acc' vacc' S5 H5 q5 s5 n5 h5 r5 x5 => ?_
      exact ⟨acc', S5, vacc', h5, r5, n5, s5, x5 S1 H1 ((x1.trans x3).trans e4) hD, q5⟩
    · have hi2 : i = xs.length := by omega
      subst hi2
      obtain ⟨hst, hq⟩ := hend acc S' hI
      refine .inl ⟨(wk S' H' x1 sok hst).2, ?_⟩
      exact p acc S' D vacc H' hq (gd.next (e1.trans x1) sok) (e1.trans x1) hd ra hsd (e1.free hD)
theorem turn_plain {S S' S0 : Sto} {H H' H0 : Hp} (e : Ext S H S' H') {D : Addr} {o : HO} (x : Ext S0 H0 S H) (h : H0 D = none) : Ext S0 H0 S' (upd H' D o) := (x.trans e).out h
theorem turn_elt (acc : List W) (vacc : List V) (D : Addr) (I : List W → Sto → Prop) (σ : Envr) (S : Sto) (Z : L2.St) (H : Hp) (Nx : Hp → Prop) (g : Gd X.K σ S Z H) (hS : S D = none) (hD : H D = some (.lst vacc)) (ra : RepWs X.K H acc vacc)
    (h : me σ S (fun y S5 => acc.length < sizeLine ∧ I (acc ++ [y]) S5) noX)
    (nx : ∀ acc' vacc' S' H', I acc' S' → StOk X.K S' H' → S' D = none → H' D = some (.lst vacc') → RepWs X.K H' acc' vacc' → (∀ S0 H0, Ext S0 H0 S H → H0 D = none → Ext S0 H0 S' H') → Nx H') :
    liftE X.K noW me Z H fun y H4 => ∃ acc, H4 D = some (.lst acc) ∧ acc.length < sizeLine ∧ Nx (upd H4 D (.lst (acc ++ [y]))) := by
  refine ⟨σ, S, _, noX, g, h, fun y S5 v H5 ⟨hl, hI⟩ g5 e5 r5 => ?_, PostX.no⟩
  obtain ⟨k1, k2⟩ := e5.keepNone hS hD
  have ra5 := e5.reps g.st ra
  refine ⟨vacc, k2, by rw [← ra.length]; exact hl, ?_⟩
  have st : Stay X.K H5 (upd H5 D (.lst (vacc ++ [v]))) := Stay.out k2
  exact nx _ _ S5 _ hI (g5.st.out k1 k2) k1 upd_same ((ra5.append (.cons r5 .nil)).mono st) fun S0 H0 x0 h0 => turn_plain e5 x0 h0
theorem own_map (N : List Str) (own : List Nat) : (own.map fun i => (N.getD i "", i)).map (·.2) = own := by
  rw [List.map_map]; exact List.map_id'' (fun _ => rfl) own
structure SndU (X : Cx) (Wx : WX) (e : Expr) (m : Envr → Sto → (List W → Sto → Prop) → XQ → Prop) : Prop where
  t : SndT X Wx e m
  s : isLC e = true → ∀ (i : Nat) (y : Str) (py spos : Pos), X.N[i]? = some y → X.env.scope.names.lookup y = some .local → swapsWith e (some (.Name y py)) spos.line X.env = pure true → PS X (.Assign [.Name y py] e spos) (tAsg (liftT X.K Wx m) (gName i))
theorem SndU.of {e : Expr} {m : Envr → Sto → (List W → Sto → Prop) → XQ → Prop} (h : SndT X Wx e m) (n : isLC e = false) : SndU X Wx e m := ⟨h, fun z => by rw [n] at z; cases z⟩
theorem notSet_of (h : notSet iter = true) : ∀ x, foldedSetIterable iter X.env x = pure x := by
  intro x
  cases iter <;> first | rfl | (simp [notSet] at h)
theorem sndU_comp (hc : X.calm = true) (hN : X.N.Nodup) (hi : PI X tg iter (liftI X.K Wx mi)) (hns : notSet iter = true) (ok : BlkOk X.N X.env.scope scope (own.map fun i => (X.N.getD i "", i))) (hsl : ∀ i ∈ sl, i ∈ own)
    (hg : ∀ (s : Shared) (H : Hp) (C : Addr) (cl : List (Str × Addr)) (fp : List Addr), PG (X.blk s H scope (compEnvC scope cl C X.env) fp) tg (liftG X.K sl mg))
    (he : ∀ (s : Shared) (H : Hp) (C : Addr) (cl : List (Str × Addr)) (fp : List Addr), PE (X.blk s H scope (compEnvC scope cl C X.env) fp) elt (liftE X.K noW me)) :
    SndU X Wx (.ListComp elt [⟨tg, iter, [], 0⟩] scope pos) (mComp mi mg (fun acc I _ σ S => me σ S (fun y S5 => acc.length < sizeLine ∧ I (acc ++ [y]) S5) noX) own) := by
  have key := lift_comp (X := X) (Wx := Wx) (mi := mi) (mg := mg) (sl := sl) (own := own) (wi := liftI X.K Wx mi) (g := liftG X.K sl mg) (tt := tYes) (te := liftE X.K noW me) (mb := fun acc I _ σ S => me σ S (fun y S5 => acc.length < sizeLine ∧ I (acc ++ [y]) S5) noX)
    (fun _ _ _ h => h) (fun _ _ _ _ h => h) hsl (fun acc vacc D I σ S Z H Nx g hS hD ra h nx => iteT (B := Nx H) (turn_elt acc vacc D I σ S Z H Nx g hS hD ra h nx))
  have z := pe_lc (pos := pos) hc hN hi ok hg (fun _ _ _ _ _ => pts_nil) he (notSet_of hns)
  rw [own_map] at z
  refine ⟨⟨pe_weak z key, fun _ => rfl, fun ⟨_, _, _, z⟩ => by cases z⟩, fun _ i y py spos hy hyl hsw => ?_⟩
  have z2 := ps_setLc hc hN hy hyl hsw hi ok hg (fun _ _ _ _ _ => pts_nil) he (notSet_of hns)
  rw [own_map] at z2
  exact ps_weak z2 fun D Z H h => key Z H _ h
theorem sndU_compif (hc : X.calm = true) (hN : X.N.Nodup) (hi : PI X tg iter (liftI X.K Wx mi)) (hns : notSet iter = true) (ok : BlkOk X.N X.env.scope scope (own.map fun i => (X.N.getD i "", i))) (hsl : ∀ i ∈ sl, i ∈ own)
    (hg : ∀ (s : Shared) (H : Hp) (C : Addr) (cl : List (Str × Addr)) (fp : List Addr), PG (X.blk s H scope (compEnvC scope cl C X.env) fp) tg (liftG X.K sl mg))
    (ht : ∀ (s : Shared) (H : Hp) (C : Addr) (cl : List (Str × Addr)) (fp : List Addr), PT (X.blk s H scope (compEnvC scope cl C X.env) fp) t (liftB X.K noW mc))
    (he : ∀ (s : Shared) (H : Hp) (C : Addr) (cl : List (Str × Addr)) (fp : List Addr), PE (X.blk s H scope (compEnvC scope cl C X.env) fp) elt (liftE X.K noW me)) :
    SndU X Wx (.ListComp elt [⟨tg, iter, [t], 0⟩] scope pos) (mComp mi mg (fun acc I J σ S => mc σ S (fun z S5 => asBl z fun b => if b = true then me σ S5 (fun y S6 => acc.length < sizeLine ∧ I (acc ++ [y]) S6) noX else J acc S5) noX) own) := by
  have key := lift_comp (X := X) (Wx := Wx) (mi := mi) (mg := mg) (sl := sl) (own := own) (wi := liftI X.K Wx mi) (g := liftG X.K sl mg) (tt := liftB X.K noW mc) (te := liftE X.K noW me) (mb := fun acc I J σ S => mc σ S (fun z S5 => asBl z fun b => if b = true then me σ S5 (fun y S6 => acc.length < sizeLine ∧ I (acc ++ [y]) S6) noX else J acc S5) noX)
    (fun _ _ _ h => h) (fun _ _ _ _ h => h) hsl (fun acc vacc D I σ S Z H Nx g hS hD ra h nx => ?_)
  · have z := pe_lc (pos := pos) hc hN hi ok hg (fun s H C cl fp => pts_one (ht s H C cl fp)) he (notSet_of hns)
    rw [own_map] at z
    refine ⟨⟨pe_weak z key, fun _ => rfl, fun ⟨_, _, _, z⟩ => by cases z⟩, fun _ i y py spos hy hyl hsw => ?_⟩
    have z2 := ps_setLc hc hN hy hyl hsw hi ok hg (fun s H C cl fp => pts_one (ht s H C cl fp)) he (notSet_of hns)
    rw [own_map] at z2
    exact ps_weak z2 fun D Z H h => key Z H _ h
  · refine ⟨σ, S, _, noX, g, h, fun b S5 H5 hb g5 e5 => ?_, PostX.no⟩
    obtain ⟨k1, k2⟩ := e5.keepNone hS hD
    cases b with
    | true =>
      refine iteT (turn_elt acc vacc D I σ S5 Z H5 Nx g5 k1 k2 (e5.reps g.st ra) (by simpa using hb) fun acc' vacc' S' H' q1 q2 q3 q4 q5 q6 => ?_)
      exact nx acc' vacc' S' H' q1 q2 q3 q4 q5 fun S0 H0 x0 h0 => q6 S0 H0 (x0.trans e5) h0
    | false =>
      refine iteF (nx acc vacc S5 H5 (by simpa using hb) g5.st k1 k2 (e5.reps g.st ra) fun S0 H0 x0 h0 => x0.trans e5)
end
section
variable {X : Cx} {Wx : WX} {σ : Envr} {S : Sto} {Z : L2.St} {H : Hp}
variable {e a b tg iter : Expr} {pos : Pos} {ma mb : MTE} {mt : Envr → Sto → (List W → Sto → Prop) → XQ → Prop} {sl : List Nat}
variable {mi : Envr → Sto → (List W → (Sto → Prop) → Sto → Prop) → XQ → Prop} {mg : W → Envr → Sto → (Envr → Sto → Prop) → XQ → Prop} {ms ms2 : MEnds → Envr → Sto → Prop} {st : Stmt} {rest body orelse : List Stmt}
theorem sw_none (h : isLC e = false) {tgt : Option Expr} {l : Nat} : swapsWith e tgt l X.env = pure false := by
  cases e <;> first | rfl | (simp [isLC] at h)
theorem ps_set_plain {i : Nat} {y : Str} {py : Pos} (hN : X.N.Nodup) (hy : X.N[i]? = some y) (hl : Loc X.env.scope y) (hf : X.fn y = true ∨ X.env.scope.names.lookup y = some .local) (hs : swapsWith e (some (.Name y py)) pos.line X.env = pure false) (h : PE X e (liftE X.K Wx ma)) :
    PS X (.Assign [.Name y py] e pos) (liftS X.K Wx fun D σ S => ma σ S (fun w S1 => D.nx (σ.set i (some w)) S1) (D.ex σ)) := by
  refine ps_weak (ps_set hN hy hl h hs hf) fun D Z H ⟨σ, S, E, g, hm, pnx, prt, pbk, pct, pex⟩ => ?_
  exact ⟨σ, S, _, E.ex σ, g, hm, fun w S1 v H1 q g1 e1 r1 => pnx _ _ _ _ q (g1.set r1 i) e1, fun C S' H' q g' e' => pex _ _ _ _ _ q g' e'⟩
theorem ps_set_lc {i : Nat} {y : Str} {py : Pos} (h : PS X (.Assign [.Name y py] e pos) (tAsg (liftT X.K Wx mt) (gName i))) :
    PS X (.Assign [.Name y py] e pos) (liftS X.K Wx fun D σ S => mt σ S (fun ws S1 => ∀ p, S1 p = none → D.nx (σ.set i (some (.ref p))) (put S1 p (.lst ws))) (D.ex σ)) := by
  refine ps_weak h fun D Z H ⟨σ, S, E, g, hm, pnx, prt, pbk, pct, pex⟩ => ?_
  refine ⟨σ, S, _, E.ex σ, g, hm, fun ws S' q vs H' hq g' e' hl r hS hH => ?_, fun C S' H' q g' e' => pex _ _ _ _ _ q g' e'⟩
  have g2 : Gd X.K σ (put S' q (.lst ws)) Z H' := ⟨g'.len, g'.sl, g'.st.mat ⟨vs, hl, r⟩⟩
  exact pnx _ _ _ _ (hq q hS) (g2.set (.ref q) i) (e'.mat hH)
theorem ps_expL (hn : isLC e = false) (h : PE X e (liftE X.K Wx ma)) : PS X (.Expr e pos) (liftS X.K Wx fun D σ S => ma σ S (fun _ S1 => D.nx σ S1) (D.ex σ)) := by
  refine ps_weak (ps_expr h (sw_none hn)) fun D Z H ⟨σ, S, E, g, hm, pnx, prt, pbk, pct, pex⟩ => ?_
  exact ⟨σ, S, _, E.ex σ, g, hm, fun w S1 v H1 q g1 e1 r1 => pnx _ _ _ _ q g1 e1, fun C S' H' q g' e' => pex _ _ _ _ _ q g' e'⟩
theorem ps_retL (h : PE X e (liftE X.K Wx ma)) : PS X (.Return (some e) pos) (liftS X.K Wx fun D σ S => ma σ S D.rt (D.ex σ)) := by
  refine ps_weak (ps_ret h) fun D Z H ⟨σ, S, E, g, hm, pnx, prt, pbk, pct, pex⟩ => ?_
  exact ⟨σ, S, _, E.ex σ, g, hm, fun w S1 v H1 q g1 e1 r1 => prt _ _ _ _ q g1.st e1 r1, fun C S' H' q g' e' => pex _ _ _ _ _ q g' e'⟩
theorem ps_retNL : PS X (.Return none pos) (liftS X.K Wx fun D _ S => D.rt .non S) := ps_weak ps_retN fun D Z H ⟨σ, S, E, g, hm, pnx, prt, pbk, pct, pex⟩ => prt _ _ _ _ hm g.st .refl .non
theorem ps_pasL : PS X (.Pass pos) (liftS X.K Wx fun D σ S => D.nx σ S) := ps_weak ps_pass fun D Z H ⟨σ, S, E, g, hm, pnx, prt, pbk, pct, pex⟩ => pnx _ _ _ _ hm g .refl
theorem ps_brkL : PS X (.Break pos) (liftS X.K Wx fun D σ S => D.bk σ S) := ps_weak ps_break fun D Z H ⟨σ, S, E, g, hm, pnx, prt, pbk, pct, pex⟩ => pbk _ _ _ _ hm g .refl
theorem ps_cntL : PS X (.Continue pos) (liftS X.K Wx fun D σ S => D.ct σ S) := ps_weak ps_continue fun D Z H ⟨σ, S, E, g, hm, pnx, prt, pbk, pct, pex⟩ => pct _ _ _ _ hm g .refl
theorem pss_nilL : PSs X [] (liftS X.K Wx fun D σ S => D.nx σ S) := pss_weak pss_nil fun D Z H ⟨σ, S, E, g, hm, pnx, prt, pbk, pct, pex⟩ => pnx _ _ _ _ hm g .refl
theorem liftS_next {m : MEnds → Envr → Sto → Prop} {D : Ends} {E E2 : MEnds} {σ2 : Envr} {S2 : Sto} {Z2 : L2.St} {H2 : Hp} {nx bk ct : L2.St → Hp → Prop} {rt : VK}
    (g2 : Gd X.K σ2 S2 Z2 H2) (e : Ext S H S2 H2) (hm : m E2 σ2 S2)
    (pnx : ∀ σ' S' Z' H', E2.nx σ' S' → Gd X.K σ' S' Z' H' → Ext S2 H2 S' H' → nx Z' H')
    (prt : ∀ w S' v H', E2.rt w S' → StOk X.K S' H' → Ext S H S' H' → RepW X.K H' w v → rt v H')
    (pbk : ∀ σ' S' Z' H', E2.bk σ' S' → Gd X.K σ' S' Z' H' → Ext S2 H2 S' H' → bk Z' H')
    (pct : ∀ σ' S' Z' H', E2.ct σ' S' → Gd X.K σ' S' Z' H' → Ext S2 H2 S' H' → ct Z' H')
    (pex : ∀ σ' C S' Z' H', E2.ex σ' C S' → Gd X.K σ' S' Z' H' → Ext S H S' H' → Wx (.ref C) none Z' H') : liftS X.K Wx m { nx := nx, rt := rt, bk := bk, ct := ct } Z2 H2 :=
  ⟨σ2, S2, E2, g2, hm, pnx, fun w S' v H' q s' e' r' => prt w S' v H' q s' (e.trans e') r', pbk, pct, fun σ' C S' Z' H' q g' e' => pex σ' C S' Z' H' q g' (e.trans e')⟩
theorem pss_consL (h1 : PS X st (liftS X.K Wx ms)) (h2 : PSs X rest (liftS X.K Wx ms2)) : PSs X (st :: rest) (liftS X.K Wx fun D σ S => ms { D with nx := ms2 D } σ S) := by
  refine pss_weak (pss_cons h1 h2) fun D Z H ⟨σ, S, E, g, hm, pnx, prt, pbk, pct, pex⟩ => ?_
  refine ⟨σ, S, { E with nx := ms2 E }, g, hm, fun σ2 S2 Z2 H2 q g2 e2 => ?_, prt, pbk, pct, pex⟩
  exact liftS_next (D := D) (E := E) g2 e2 q (fun σ' S' Z' H' q' g' e' => pnx _ _ _ _ q' g' (e2.trans e')) prt (fun σ' S' Z' H' q' g' e' => pbk _ _ _ _ q' g' (e2.trans e')) (fun σ' S' Z' H' q' g' e' => pct _ _ _ _ q' g' (e2.trans e')) pex
theorem ps_iffL {c : Expr} {mc : MTE} (hc : PT X c (liftB X.K Wx mc)) (ha : PSs X body (liftS X.K Wx ms)) (hb : PSs X orelse (liftS X.K Wx ms2)) :
    PS X (.If c body orelse pos) (liftS X.K Wx fun D σ S => mc σ S (fun x S1 => asBl x fun k => if k = true then ms D σ S1 else ms2 D σ S1) (D.ex σ)) := by
  refine ps_weak (ps_if hc ha hb) fun D Z H ⟨σ, S, E, g, hm, pnx, prt, pbk, pct, pex⟩ => ?_
  refine ⟨σ, S, fun k S1 => if k = true then ms E σ S1 else ms2 E σ S1, E.ex σ, g, hm, fun k S1 H1 q g1 e1 => ?_, fun C S' H' q g' e' => pex _ _ _ _ _ q g' e'⟩
  have go : ∀ {m : MEnds → Envr → Sto → Prop}, m E σ S1 → liftS X.K Wx m D Z H1 := fun {m} q => liftS_next (D := D) (E := E) g1 e1 q (fun σ' S' Z' H' q' g' e' => pnx _ _ _ _ q' g' (e1.trans e')) prt (fun σ' S' Z' H' q' g' e' => pbk _ _ _ _ q' g' (e1.trans e')) (fun σ' S' Z' H' q' g' e' => pct _ _ _ _ q' g' (e1.trans e')) pex
  cases k with
  | true => exact iteT (go (by simpa using q))
  | false => exact iteF (go (by simpa using q))
theorem ps_whlL {c : Expr} {mc : MTE} (hp : PassesOwn (model X.prog X.w) X.A X.env X.xe) (hc : PT X c (liftB X.K Wx mc)) (hb : PSs X body (liftS X.K Wx ms)) :
    PS X (.While c body [] pos) (liftS X.K Wx fun D σ S => ∃ I : Nat → Envr → Sto → Prop, (∃ n S2, Sub S2 S ∧ I n σ S2) ∧ ∀ n σ S, I n σ S →
      mc σ S (fun x S1 => asBl x fun k => if k = true then ms { D with nx := fun σ' S' => ∃ m, m < n ∧ I m σ' S', ct := fun σ' S' => ∃ m, m < n ∧ I m σ' S', bk := D.nx } σ S1 else D.nx σ S1) (D.ex σ)) := by
  refine ps_weak (ps_while hp hc hb) fun D Z H ⟨σ, S, E, g, ⟨I, ⟨n, S2, sub, h0⟩, step⟩, pnx, prt, pbk, pct, pex⟩ => ?_
  refine ⟨fun m Z' H' => ∃ σ' S', Gd X.K σ' S' Z' H' ∧ Ext S H S' H' ∧ I m σ' S', ⟨n, σ, S2, ⟨g.len, g.sl, g.st.sub sub⟩, Ext.sub sub, h0⟩, ?_⟩
  rintro m Z1 H1 ⟨σ1, S1, g1, e1, hI⟩
  refine ⟨σ1, S1, fun k S1 => if k = true then ms { E with nx := fun σ' S' => ∃ m', m' < m ∧ I m' σ' S', ct := fun σ' S' => ∃ m', m' < m ∧ I m' σ' S', bk := E.nx } σ1 S1 else E.nx σ1 S1, E.ex σ1, g1, step m σ1 S1 hI, fun k S3 H3 q g3 e3 => ?_, fun C S' H' q g' e' => pex _ _ _ _ _ q g' (e1.trans e')⟩
  cases k with
  | false => exact iteF (pnx _ _ _ _ (by simpa using q) g3 (e1.trans e3))
  | true =>
    refine iteT ⟨fun Z' H' => ∃ m', m' < m ∧ ∃ σ' S', Gd X.K σ' S' Z' H' ∧ Ext S H S' H' ∧ I m' σ' S', fun Z' H' ⟨m', hm, h⟩ => ⟨m', hm, h⟩, ?_⟩
    have e13 := e1.trans e3
    exact liftS_next (D := D) (E := E) (E2 := { E with nx := fun σ' S' => ∃ m', m' < m ∧ I m' σ' S', ct := fun σ' S' => ∃ m', m' < m ∧ I m' σ' S', bk := E.nx }) (nx := fun Z' H' => ∃ m', m' < m ∧ ∃ σ' S', Gd X.K σ' S' Z' H' ∧ Ext S H S' H' ∧ I m' σ' S') (ct := fun Z' H' => ∃ m', m' < m ∧ ∃ σ' S', Gd X.K σ' S' Z' H' ∧ Ext S H S' H' ∧ I m' σ' S') (bk := D.nx) (rt := D.rt) g3 e13 (by simpa using q)
      (fun σ' S' Z' H' ⟨m', hm', q'⟩ g' e' => ⟨m', hm', σ', S', g', e13.trans e', q'⟩) prt (fun σ' S' Z' H' q' g' e' => pnx _ _ _ _ q' g' (e13.trans e')) (fun σ' S' Z' H' ⟨m', hm', q'⟩ g' e' => ⟨m', hm', σ', S', g', e13.trans e', q'⟩) pex
theorem ps_forL (hp : PassesOwn (model X.prog X.w) X.A X.env X.xe) (hc : X.calm = true) (hns : notSet iter = true) (hi : PI X tg iter (liftI X.K Wx mi)) (hg : PG X tg (liftG X.K sl mg)) (hb : PSs X body (liftS X.K Wx ms)) :
    PS X (.For tg iter body [] pos) (liftS X.K Wx fun D σ S => mi σ S (fun xs st S1 => ∃ I : Nat → Envr → Sto → Prop, (∃ S2, Sub S2 S1 ∧ I 0 σ S2) ∧
      (∀ k x σ' S', xs[k]? = some x → I k σ' S' → st S' ∧ mg x σ' S' (fun σ2 S2 => ms { D with nx := I (k + 1), ct := I (k + 1), bk := D.nx } σ2 S2) noX) ∧
      ∀ σ' S', I xs.length σ' S' → st S' ∧ D.nx σ' S') (D.ex σ)) := by
  refine ps_weak (ps_for hp hc hi hg hb (notSet_of hns)) fun D Z H ⟨σ, S, E, g, hm, pnx, prt, pbk, pct, pex⟩ => ?_
  refine ⟨σ, S, _, E.ex σ, g, hm, fun xs st S1 J H1 ⟨I, ⟨S2, sub, h0⟩, hstep, hend⟩ g1 e1 wk => ?_, fun C S' H' q g' e' => pex _ _ _ _ _ q g' e'⟩
  refine ⟨fun i m Z' H' => m = xs.length - i ∧ i ≤ xs.length ∧ ∃ σ' S', Gd X.K σ' S' Z' H' ∧ Ext S1 H1 S' H' ∧ I i σ' S', ⟨xs.length, by simp, Nat.zero_le _, σ, S2, ⟨g1.len, g1.sl, g1.st.sub sub⟩, Ext.sub sub, h0⟩, ?_⟩
  rintro i m Z' H' ⟨rfl, hi', σ', S', g', x1, hI⟩
  by_cases hlt : i < xs.length
  · have hx : xs[i]? = some xs[i] := by simp [hlt]
    obtain ⟨hst, hgt⟩ := hstep i _ σ' S' hx hI
    obtain ⟨hgo, hy⟩ := (wk S' H' x1 g'.st hst).1 i _ hx
    refine .inr ⟨hgo, fun Z'' H'' => ∃ σ'' S'', Gd X.K σ'' S'' Z'' H'' ∧ Ext S1 H1 S'' H'' ∧ I (i + 1) σ'' S'', fun Z'' H'' n => ⟨xs.length - (i + 1), by omega, rfl, hlt, n⟩, fun v H3 hyl => ?_⟩
    obtain ⟨s3, x3, r3⟩ := hy v H3 hyl
    refine ⟨_, σ', S', _, g'.next x3 s3, r3, hgt, fun σ4 S4 Z4 H4 hb g4 e4 _ => ?_⟩
    have e14 := (x1.trans x3).trans e4
    have e04 := e1.trans e14
    exact liftS_next (D := D) (E := E) (nx := fun Z'' H'' => ∃ σ'' S'', Gd X.K σ'' S'' Z'' H'' ∧ Ext S1 H1 S'' H'' ∧ I (i + 1) σ'' S'') (ct := fun Z'' H'' => ∃ σ'' S'', Gd X.K σ'' S'' Z'' H'' ∧ Ext S1 H1 S'' H'' ∧ I (i + 1) σ'' S'') (bk := D.nx) (rt := D.rt) g4 e04 hb
      (fun σ' S' Z' H' q' g' e' => ⟨σ', S', g', e14.trans e', q'⟩) prt (fun σ' S' Z' H' q' g' e' => pnx _ _ _ _ q' g' (e04.trans e')) (fun σ' S' Z' H' q' g' e' => ⟨σ', S', g', e14.trans e', q'⟩) pex
  · have hi2 : i = xs.length := by omega
    subst hi2
    obtain ⟨hst, hq⟩ := hend σ' S' hI
    exact .inl ⟨(wk S' H' x1 g'.st hst).2, pnx _ _ _ _ hq g' (e1.trans x1)⟩
theorem ps_asgL {sl : List Nat} (h1 : notStar tg = true) (hs : swapsWithSole [tg] e pos.line X.env = pure false) (hw : swappedStores [tg] e X.env = pure none) (he : PE X e (liftE X.K Wx ma)) (hg : PG X tg (liftG X.K sl mg)) :
    PS X (.Assign [tg] e pos) (liftS X.K Wx fun D σ S => ma σ S (fun w S1 => mg w σ S1 D.nx noX) (D.ex σ)) := by
  refine ps_weak (ps_asg he hg hs hw (by rw [asg_cons h1]; rfl)) fun D Z H ⟨σ, S, E, g, hm, pnx, prt, pbk, pct, pex⟩ => ?_
  refine ⟨σ, S, _, E.ex σ, g, hm, fun w S1 v H1 q g1 e1 r1 => ?_, fun C S' H' q g' e' => pex _ _ _ _ _ q g' e'⟩
  exact ⟨w, σ, S1, _, g1, r1, q, fun σ' S' Z' H' q' g' e' _ => pnx _ _ _ _ q' g' (e1.trans e')⟩
def iopR : BOp → R2
  | .add => fun x y H Q => rI0 (fun i j => .int (i + j)) x y H Q ∨ (∃ i j, x = .str i ∧ y = .str j ∧ i.length + j.length ≤ sizeLine ∧ Q (.str (i ++ j)) H)
  | _ => rI0 fun i j => .int (i - j)
theorem iopR_ok {op : BOp} {o : Operator} (h : iopB op o = true) : PIp X o (iopR op) := by
  cases op <;> cases o <;> first | exact absurd h (by decide) | skip
  · exact iop_add.or iop_add_str
  · exact iop_sub
theorem ps_augL {i : Nat} {y : Str} {py : Pos} {op : BOp} {o : Operator} (hop : iopB op o = true) (hN : X.N.Nodup) (hy : X.N[i]? = some y) (hl : Loc X.env.scope y) (hf : X.fn y = true ∨ X.env.scope.names.lookup y = some .local) (h : PE X e (liftE X.K Wx ma)) :
    PS X (.AugAssign (.Name y py) o e pos) (liftS X.K Wx fun D σ S => match getv σ i with
    | some x => ma σ S (fun y S1 => augW op x y fun z => D.nx (σ.set i (some z)) S1) (D.ex σ)
    | none => False) := by
  refine ps_weak (ps_aug hN hy hl h (iopR_ok hop) hf) fun D Z H ⟨σ, S, E, g, hm, pnx, prt, pbk, pct, pex⟩ => ?_
  dsimp only at hm
  split at hm
  · rename_i x ex
    have ex' : σ[i]? = some (some x) := by
      unfold getv at ex
      split at ex
      · cases ex; assumption
      · cases ex
    obtain ⟨v, hv, rv⟩ := g.sl i x ex'
    refine ⟨v, hv, σ, S, _, E.ex σ, g, hm, fun w S1 u H1 q g1 e1 r1 => ?_, fun C S' H' q g' e' => pex _ _ _ _ _ q g' e'⟩
    have rv1 := e1.rep g.st rv
    cases op <;> first | exact q.elim | skip
    · cases x <;> cases w <;> first | exact q.elim | skip
      · cases rv1; cases r1
        exact .inl ⟨_, _, rfl, rfl, pnx _ _ _ _ q (g1.set (.int _) i) e1⟩
      · cases rv1; cases r1
        exact .inr ⟨_, _, rfl, rfl, q.1, pnx _ _ _ _ q.2 (g1.set (.str _) i) e1⟩
    · cases x <;> cases w <;> first | exact q.elim | skip
      cases rv1; cases r1
      exact ⟨_, _, rfl, rfl, pnx _ _ _ _ q (g1.set (.int _) i) e1⟩
  · exact hm.elim
end
section
variable {P : Program} {w : World} {A : Around} {E : Value → Shared → Prop} {s : Shared}
abbrev noSet (w : World) : Obj := { cls := .type "set", dict := none, data := .set #[] 0 (.fresh 0 0 (!w.params.followText "set-order")) }
abbrev withSet (w : World) (h : Heap) : Heap := h.push (noSet w)
theorem wS_get {h : Heap} : (withSet w h).get? h.objs.size = some (noSet w) := Heap.get?_push_size _ rfl
theorem wS_size {h : Heap} : (withSet w h).objs.size = h.objs.size + 1 := Heap.size_push ..
set_option maxHeartbeats 8000000 in
theorem set_ofL {l : Addr} {xs : Array Value} (ns : List Int) {Q : Value → Shared → Prop} (cl : A.handled = none) (hl : s.heap.IsList l xs) (hx : IntsAre xs.toList ns) (few : ns.length + 1 < scanBound)
    (h : ∀ (h' : Heap) (tk c : Nat), SetR w h' s.heap.objs.size (fun j => decide (j ∈ ns)) c → c ≤ ns.length → (∀ b o, s.heap.get? b = some o → h'.get? b = some o) → Q (.ref s.heap.objs.size) { s with heap := h', toks := tk }) :
    wpAny (model P w) A (call (.type "set") [.ref l]) Q E s := by
  have size : xs.size = ns.length := by have q := IntsAre.length hx; rwa [Array.length_toList] at q
  obtain ⟨mr, mt, made0⟩ := F.called_set.mro
  obtain made1 := F.called_set.made; obtain made2 := F.called_set.sub
  refine wpAny_call (codeAny_of_tree ?top)
  show wpAny _ _ (callAny (.type "set") _) _ _ _; refine wpAny_pure ⟨Code.quiet_builtin _ (by decide +kernel), codeAny_builtin F.entry_type_call ?run⟩
  rw [Around.under_plain (weight_type_call_type "set" [.ref l] []) rfl]; obtain made3 := F.called_set.notType
  obtain made4 := F.called_set.canCreate; obtain made5 := F.typeCall_set_1 (.ref l)
  repeat (any_goals (first | assumption | wp_step))
  refine codeAny_mono (code_set_led1 (.ref l) (E := E) (Q₁ := fun v t => v = .ref s.heap.objs.size ∧ t = { s with heap := withSet w s.heap }) ⟨rfl, rfl⟩) fun r t hr => ?_
  match r, hr with
  | .error e, hr => exact hr
  | .ok (.ret v), ⟨e1, e2⟩ =>
    subst e1 e2
    have ty : Shared.TypeIs { s with heap := withSet w s.heap } (.ref s.heap.objs.size) "set" := ⟨_, wS_get, rfl⟩
    obtain made6 := F.called_set.init.lookup; obtain made7 := F.called_set.init.bind (.ref s.heap.objs.size)
    repeat (any_goals (first | assumption | wp_step))
    refine codeAny_mono (codeAny_call_builtin (R := wants (fun v t => v = .none ∧ ∃ h' tk c, t = { s with heap := h', toks := tk } ∧ SetR w h' s.heap.objs.size (fun j => decide (j ∈ ns)) c ∧ c ≤ ns.length ∧
      (∀ b o, s.heap.get? b = some o → h'.get? b = some o)) E) F.called_set.init.plain F.entry_set_init (check_set_init_1 ty ?body)) fun r2 t2 hr2 => ?after
    case body =>
      obtain ⟨⟨oc, od, dt, os⟩, ho, hc, n, hd⟩ := hl
      simp only at hc hd; subst hc hd
      have ho2 : (withSet w s.heap).get? l = some { cls := .type "list", dict := od, data := .seq xs n, slots := os } := Heap.get?_push_of_some _ ho
      have hl2 : (withSet w s.heap).IsList l xs := ⟨_, ho2, rfl, n, rfl⟩
      obtain made8 := F.sub_list_set; obtain made9 := F.sub_list_frozenset
      have made10 : (Value.type "list" == Value.type "dict") = false := by decide
      unfold Builtin.«set.__init__» noKeywords Builtin.Frozenset.updateFrom; generalize it : pyIter = PI
      wp_walk
      subst it; refine wpAny_pyIter_list hl2 (wpAny_bind (wpAny_runValue ?_))
      have low : l < s.heap.objs.size := Heap.lt_size ho
      have calm : A.in1.in1.in1.handled = none := by simp [cl]
      have off : l ≠ (withSet w s.heap).objs.size := wS_size (w := w) ▸ Nat.ne_of_lt (Nat.lt_succ_of_lt low)
      have off2 : s.heap.objs.size ∉ [(withSet w s.heap).objs.size, l] := by
        rw [wS_size, List.mem_cons, List.mem_singleton]; exact fun z => z.elim (Nat.ne_of_lt (Nat.lt_succ_self _)) (Nat.ne_of_gt low)
      have vals : ∀ (i : Nat) (v : Value), xs[i]? = some v → ∃ k t, ns[i]? = some k ∧ v = .int k t := fun i v hv => by
        have hi : i < ns.length := size ▸ (Array.getElem?_eq_some_iff.mp hv).1
        obtain ⟨t, e⟩ := PyProof.Rows.IntsAre.int_at hx i v (by rw [Array.getElem?_toList]; exact hv)
        exact ⟨ns[i], t, List.getElem?_eq_getElem hi, by rw [e, List.getD_eq_getElem?_getD, List.getElem?_eq_getElem hi]; rfl⟩
      refine set_update_ints ((Walks.list calm _ l off xs).toS) s.heap.objs.size off2 ns size few vals (xs.size - 0) 0 _ (by omega) (Nat.zero_le _) ⟨⟨_, Heap.get?_push_size _ rfl, rfl, rfl⟩, hl2.push _⟩ ⟨0, Nat.le_refl 0, setR_new_at (Heap.get?_push_of_some _ wS_get)⟩ fun t c mv hc hS => ?_
      obtain ⟨th, tg, td, tt, tos⟩ := t
      obtain rfl : tg = s.gens := mv.gens
      obtain rfl : td = s.drawn := mv.drawn
      obtain rfl : tos = s.os := mv.os
      show wpAny _ _ _ _ _ _; refine wpAny_pure ?_
      show wpAny _ _ (ret Value.none) _ _ _; refine wpAny_pure ⟨rfl, th, tt, c, rfl, hS, size ▸ hc, fun b o e => ?_⟩
      have hb : b < s.heap.objs.size := Heap.lt_size e
      refine mv.heap b o ?_ (Heap.get?_push_of_some _ (Heap.get?_push_of_some _ e))
      have z : (withSet w s.heap).objs.size = s.heap.objs.size + 1 := wS_size
      rw [List.mem_cons, List.mem_singleton, z]; exact fun y => y.elim (Nat.ne_of_lt hb) (Nat.ne_of_lt (Nat.lt_succ_of_lt hb))
    case after =>
      match r2, hr2 with
      | .error e, hr2 => exact hr2
      | .ok (.ret v), ⟨e1, h', tk, c, e2, hS, hc, hk⟩ =>
        subst e1 e2
        repeat (any_goals (first | assumption | wp_step))
        exact h _ _ _ hS hc hk
theorem sorted_ofSet {a : Addr} {M : Int → Bool} {n : Nat} {Q : Value → Shared → Prop} (R : SetR w s.heap a M n) (cl : A.handled = none)
    (h : ∀ t p (out : List Value) (c : Nat) (ns : List Int), (∀ b o, s.heap.get? b = some o → t.heap.get? b = some o) → t.gens = s.gens → t.os = s.os → s.heap.objs.size ≤ p →
      t.heap.get? p = some (seqObj "list" out.toArray c) → IntsAre out ns → ns.Pairwise (· < ·) → (∀ k, k ∈ ns ↔ M k = true) → ns.length = n → Q (.ref p) t) : wpAny (model P w) A (call (.builtin "sorted") [.ref a]) Q E s := by
  obtain ⟨o, es, ep, t, ho, hex, hd, good, nd, mem, few, fits, hn, ris, led⟩ := R
  refine Calls.call_function_entry kind_sorted plain_sorted entry_sorted (args_sorted1 _) ?go; unfold Builtin.«sorted»
  refine wpAny_bind (m := checkCount "sorted" 1 1 _) (wpAny_pure (wpAny_bind (collect_set (A := A.in1) cl ⟨o, ho, hex.1, hd⟩ fits few ris led fun t1 vs k1 z1 g1 o1 pm => ?_)))
  have len : vs.length = n := by rw [pm.length_eq, List.length_map, Array.length_toList, hn]
  have le : vs.length ≤ sizeLine := by rw [len, ← hn, sizeLine_eq]; unfold scanBound at few; omega
  have hI : IntsAre vs (vs.map SrtO.iv) := SrtO.ints_iv fun v hv => by
    obtain ⟨e, he, q⟩ := List.mem_map.mp (pm.mem_iff.mp hv)
    obtain ⟨k, tk, h1, _⟩ := good e he
    exact ⟨k, tk, q ▸ h1⟩
  have keys : (vs.map SrtO.iv).Perm (es.toList.map keyOf) := by
    have q := pm.map SrtO.iv; rw [List.map_map] at q
    have e : es.toList.map (SrtO.iv ∘ fun x => x.2) = es.toList.map keyOf := List.map_congr_left fun x _ => rfl
    rwa [← e]
  refine wpAny_bind (wpAny_newList ?_ le)
  have at1 : (t1.heap.push (seqObj "list" vs.toArray 0)).get? t1.heap.objs.size = some (seqObj "list" vs.toArray 0) := Heap.get?_push_size _ rfl
  refine wpAny_bind (wpAny_holding (wpAny_call_entry slot_list_sort ⟨_, at1, rfl⟩ entry_list_sort (SrtO.list_sort_ord SrtO.swo_int at1 le (fun h2 => SrtO.ints_sortable hI h2) fun out a1 a2 => ⟨_, rfl, ?_⟩) (args_list_sort _)))
  obtain ⟨b1, b2, b3⟩ := SrtO.ints_out hI a1 a2
  obtain ⟨c, hc⟩ := sortedHeap_at (vs := vs) (out := out.toArray) at1
  have pn : (out.map SrtO.iv).Perm (es.toList.map keyOf) := b2.trans keys
  refine wpAny_pure ⟨_, rfl, h _ t1.heap.objs.size out c _ (fun b u e => ?_) g1 o1 z1 hc b1 (lt_of_le_nodup _ b3 (pn.nodup_iff.mpr nd)) (fun k => by rw [pn.mem_iff, ← mem k]) (by rw [pn.length_eq, List.length_map, Array.length_toList, hn])⟩
  have lt1 := Heap.lt_size (k1 b u e)
  show (sortedHeap (t1.heap.push (seqObj "list" vs.toArray 0)) t1.heap.objs.size vs out.toArray).get? b = some u
  rw [sortedHeap_old (Nat.ne_of_lt lt1) (by rw [size_push']; exact Nat.lt_succ_of_lt lt1)]; exact Heap.get?_push_of_some _ (k1 b u e)
end
section
variable {X : Cx}
def rSetL (K : PySem.W.Frag) (w : World) : List V → Hp → VK → Prop := fun vs H Q => ∃ (a : Addr) (ns : List Int), vs = [V.ref a] ∧ SqL K H a (ns.map V.int) ∧ ns.length ≤ 4000 ∧
  ∀ (p : Addr) (c : Nat), H p = none → Q (.ref p) (upd H p (SetO w p (fun j => decide (j ∈ ns)) c))
theorem cr_setL (cl : X.calm = true) : CallR X (.type "set") (rSetL X.K X.w) := by
  intro pins s σ H vs us Q I r h
  obtain ⟨a, ns, rfl, hs, few, q⟩ := h
  obtain ⟨its, rv, hl, hz⟩ := I.list hs
  rw [Vals.ref1 r]
  have bound : ns.length + 1 < scanBound := by unfold scanBound; omega
  refine set_ofL ns (I.ok.hd cl) hl.isList rv.ints bound fun h' tk c hS _ hk => ?_
  exact ⟨.ref _, _, I.laid (t' := tk) hk (Nat.le_refl _) (setO_new hS), rfl, q _ c (I.hok.fresh (Nat.le_refl _))⟩
def rSortS (w : World) : List V → Hp → VK → Prop := fun vs H Q => ∃ (a : Addr) (M : Int → Bool) (n : Nat), vs = [V.ref a] ∧ H a = some (SetO w a M n) ∧
  ∀ (ns : List Int) (p : Addr), ns.Pairwise (· < ·) → (∀ k : Int, k ∈ ns ↔ M k = true) → H p = none → Q (.ref p) (upd H p (.lst (ns.map V.int)))
theorem cr_sortS (cl : X.calm = true) : CallR X (.builtin "sorted") (rSortS X.w) := by
  intro pins s σ H vs us Q I r h
  obtain ⟨a, M, n, rfl, ha, q⟩ := h
  have R := setO_get I ha
  have few : n < scanBound := by obtain ⟨o, es, ep, t, _, _, _, _, _, _, f, _, e, _⟩ := R; omega
  rw [Vals.ref1 r]
  refine sorted_ofSet R (I.ok.hd cl) fun t p out c ns k g o hp hg hi hs hm hl => ?_
  have len : (ns.map V.int).length ≤ sizeLine := by rw [List.length_map, hl, sizeLine_eq]; unfold scanBound at few; omega
  have hn := I.hok.fresh hp
  have e : t = { s with heap := t.heap, gens := t.gens, drawn := t.drawn, toks := t.toks } := by cases t; cases s; cases o; rfl
  have new : ObjOk X.prog X.w (upd H p (.lst (ns.map V.int))) t.heap p (.lst (ns.map V.int)) := ⟨len, out, c, vals_of_ints hi, hg⟩
  rw [e]
  exact ⟨.ref p, upd H p (.lst (ns.map V.int)), I.call (ch := []) (Un.laid k hp hn) (I.hok.laid k hp new) (by rw [g]; exact I.bare) (fun _ z => nomatch z), rfl, q ns p hs hm hn⟩
def PairV (K : PySem.W.Frag) (H : Hp) (x : V) (p : Int × Int) : Prop := ∃ t, x = V.ref t ∧ SqT K H t [.int p.1, .int p.2]
def rSortW (K : PySem.W.Frag) : List V → Hp → VK → Prop := fun vs H Q => ∃ (a : Addr) (xs : List V), vs = [V.ref a] ∧ SqL K H a xs ∧ (∀ x ∈ xs, ∃ p, PairV K H x p) ∧
  ∀ (ys : List V) (k : V → Int × Int) (p : Addr), (∀ x ∈ xs, PairV K H x (k x)) → (∀ x q, PairV K H x q → x ∈ xs → q = k x) → ys.Perm xs → (ys.map k).Pairwise (fun p q => p.1 < q.1 ∨ p.1 = q.1 ∧ p.2 ≤ q.2) → H p = none → Q (.ref p) (upd H p (.lst ys))
open Classical in
theorem cr_sortW : CallR X (.builtin "sorted") (rSortW X.K) := by
  intro pins s σ H vs us Q I r h
  obtain ⟨a, xs, rfl, hs, hx, q⟩ := h
  obtain ⟨its, rv, hl, hz⟩ := I.list hs
  rw [Vals.ref1 r]
  let k : V → Int × Int := fun x => if h : ∃ p, PairV X.K H x p then h.choose else (0, 0)
  have hk : ∀ x ∈ xs, PairV X.K H x (k x) := fun x hm => by
    show PairV X.K H x (if h : ∃ p, PairV X.K H x p then h.choose else (0, 0))
    rw [dif_pos (hx x hm)]; exact (hx x hm).choose_spec
  obtain ⟨e1, e2⟩ := refs_back rv fun x m => let ⟨_, t, e, _⟩ := hx x m; ⟨t, e⟩
  have mem : ∀ t : Addr, Value.ref t ∈ its → V.ref t ∈ xs := fun t ht => by rw [e1]; exact List.mem_map.mpr ⟨_, ht, rfl⟩
  refine SrtO.sorted_pairsO (k := fun u => k (backV u)) hl.isList (by rw [← rv.length]; exact hz) (fun v hv => ?_) fun h' d out h1 h2 kp hd hn => ?_
  · obtain ⟨t, rfl⟩ := e2 v hv
    obtain ⟨t', e, ht⟩ := hk _ (mem t hv)
    cases e
    obtain ⟨its2, r2, ⟨o, ho, hc, n, hd⟩, _⟩ := I.tuple ht
    obtain ⟨u1, u2, rfl, ⟨t1, rfl⟩, ⟨t2, rfl⟩⟩ := vals2 r2
    exact ⟨t, o, t1, t2, n, rfl, ho, hc, hd⟩
  · have h3 : ∀ u ∈ out, ∃ a, u = Value.ref a := fun u hu => e2 u (h2.perm.mem_iff.mp hu)
    obtain ⟨n, hn⟩ := hn
    have pm : (out.map backV).Perm xs := by rw [e1]; exact h2.perm.map backV
    refine ⟨.ref d, upd H d (.lst (out.map backV)), I.laid (t' := s.toks) kp hd ⟨by rw [pm.length_eq]; exact hz, out, n, vals_back h3, hn⟩, rfl, q _ k d hk (fun x p hp hm => ?_) pm ?_ (I.hok.fresh hd)⟩
    · obtain ⟨t, rfl, h4⟩ := hp
      obtain ⟨t', e, h5⟩ := hk _ hm
      cases e
      have e := I.tuple_inj h4 h5
      injection e with e3 e4; injection e3 with e3; injection e4 with e4 _; injection e4 with e4
      exact Prod.ext e3 e4
    · rw [List.map_map]
      refine List.pairwise_map.mpr (h1.imp fun {x y} h => ?_)
      have h6 := SrtO.lexB_no.mp h
      show (k (backV x)).1 < (k (backV y)).1 ∨ (k (backV x)).1 = (k (backV y)).1 ∧ (k (backV x)).2 ≤ (k (backV y)).2
      omega
end
section
variable {K : PySem.W.Frag} {H H' : Hp} {S : Sto}
theorem RepF.look {f : Str} : ∀ {fs : List (Str × W)} {vs : List (Str × V)}, RepF K H fs vs → (∀ w, fs.lookup f = some w → ∃ v, vs.lookup f = some v ∧ RepW K H w v) ∧ (fs.lookup f = none → vs.lookup f = none)
  | [], [], _ => ⟨fun w e => (by cases e), fun _ => rfl⟩
  | (g, w1) :: r, (g2, v1) :: t, ⟨e, rv, rt⟩ => by
    have e' : g = g2 := e
    subst e'
    have ih := RepF.look (f := f) rt
    rw [List.lookup_cons, List.lookup_cons]
    cases f == g with
    | true => exact ⟨fun w e => by cases e; exact ⟨v1, rfl, rv⟩, fun e => by cases e⟩
    | false => exact ih
  | [], _ :: _, h => h.elim
  | _ :: _, [], h => h.elim
theorem RepF.putF {f : Str} {w : W} {v : V} (rw' : RepW K H w v) : ∀ {fs : List (Str × W)} {vs : List (Str × V)}, RepF K H fs vs → RepF K H (putFW f w fs) (L2.putF f v vs)
  | [], [], _ => ⟨rfl, rw', trivial⟩
  | (g, w1) :: r, (g2, v1) :: t, ⟨e, rv, rt⟩ => by
    have e' : g = g2 := e
    subst e'
    unfold putFW L2.putF
    by_cases h : g = f
    · rw [if_pos h, if_pos h]; exact ⟨rfl, rw', rt⟩
    · rw [if_neg h, if_neg h]; exact ⟨rfl, rv, RepF.putF rw' rt⟩
  | [], _ :: _, h => h.elim
  | _ :: _, [], h => h.elim
end
section
variable {X : Cx} {Wx : WX} {σ : Envr} {S : Sto} {Z : L2.St} {H : Hp}
variable {a b c r0 : Expr} {pos ap : Pos} {ma mb mc : MTE} {es : List Expr} {mes : Envr → Sto → (List W → Sto → Prop) → XQ → Prop}
theorem snd_fld {C : Addr} {f : Str} (hb0 : baseOk a = true) (hc : Cls X.K C) (hn : NoAttr X.K C f) (ha : PE X a (liftE X.K Wx ma)) : Snd X Wx (.Attribute a f pos) (fun σ S Q E => ma σ S (fun x S1 => fldW x C f S1 fun w => Q w S1) E) := by
  refine Snd.plain (pe_weak (pe_fld ha (base_ok hb0)) fun Z H QV ⟨σ, S, Q, E, g, h, p, px⟩ => ?_) (fun _ => rfl) (fun ⟨_, _, _, z⟩ => by cases z)
  refine ⟨σ, S, _, E, g, h, fun x S1 v H1 h1 g1 e1 r1 => ?_, px⟩
  cases x <;> first | exact h1.elim | skip
  rename_i ad
  cases r1
  unfold fldW at h1
  dsimp only at h1
  split at h1
  · rename_i D fs e
    obtain ⟨rfl, h1⟩ := h1
    obtain ⟨dx, vs, hv, rf⟩ := g1.st _ _ e
    split at h1
    · rename_i w ew
      obtain ⟨v, ev, rv⟩ := rf.look.1 w ew
      exact ⟨ad, D, dx, vs, v, rfl, hv, hc, hn, ev, p _ _ _ _ h1 g1 e1 rv⟩
    · exact h1.elim
  · exact h1.elim
theorem StOk.setIns {p dx C : Addr} {fs fs0 : List (Str × W)} {vs : List (Str × V)} {K : PySem.W.Frag} (g : StOk K S H) (h : S p = some (.ins C fs0)) (r : RepF K H fs vs) : StOk K (put S p (.ins C fs)) (upd H p (.ins C dx vs)) := by
  have x : Ext S H (put S p (.ins C fs)) (upd H p (.ins C dx vs)) := Ext.write (by rw [h]; exact fun z => by cases z) (g.nfI h)
  exact g.put_at x (fun a v h e => by rw [upd_ne h]; exact e) ⟨dx, vs, upd_same, r.mono (x.stay g)⟩
theorem ps_sflL {C : Addr} {f : Str} {p2 : Pos} (hc : Cls X.K C) (hn : NoAttr X.K C f) (ho : PE X a (liftE X.K Wx ma)) (hv : PE X b (liftE X.K Wx mb)) :
    PS X (.Assign [.Attribute a f p2] b pos) (liftS X.K Wx fun D σ S => mb σ S (fun y S1 => ma σ S1 (fun x S2 => setF x C f y S2 (D.nx σ)) (D.ex σ)) (D.ex σ)) := by
  refine ps_weak (ps_fld ho hv (by cases b <;> rfl)) fun D Z H ⟨σ, S, E, g, h, k1, k2, k3, k4, k5⟩ => ?_
  refine ⟨σ, S, _, _, g, h, fun y S1 v1 H1 h1 g1 e1 r1 => ?_, fun C S' H' q g' e' => k5 _ _ _ _ _ q g' e'⟩
  refine ⟨σ, S1, _, _, g1, h1, fun x S2 v2 H2 h2 g2 e2 r2 => ?_, fun C S' H' q g' e' => k5 _ _ _ _ _ q g' (e1.trans e')⟩
  cases x <;> first | exact h2.elim | skip
  rename_i ad
  cases r2
  unfold setF at h2
  dsimp only at h2
  split at h2
  · rename_i D fs e
    obtain ⟨rfl, hl, h2⟩ := h2
    obtain ⟨dx, vs, hv', rf⟩ := g2.st _ _ e
    have ry := e2.rep g1.st r1
    have x : Ext S2 H2 (put S2 ad (.ins D (putFW f y fs))) (upd H2 ad (.ins D dx (L2.putF f v1 vs))) := Ext.write (by rw [e]; exact fun z => by cases z) (g2.st.nfI e)
    refine ⟨ad, D, dx, vs, rfl, hv', hc, hn, by rw [← rf.length]; exact hl, ?_⟩
    exact k1 _ _ _ _ h2 (g2.next x (g2.st.setIns e (rf.putF ry))) ((e1.trans e2).trans x)
  · exact h2.elim
def tMethS (C : Addr) (m : Str) (sp : Sp) (E : L2.St → XK) (ta : TE) (t : TA) : TE := fun σ H Q => ta σ H fun x H1 => ∃ a dx fs, x = .ref a ∧ H1 a = some (.ins C dx fs) ∧ fs.lookup m = none ∧ t σ H1 fun vs H2 => sp (x :: vs) H2 Q (E σ)
section
variable {CX : CXT} {k : Nat} {f C : Addr} {fd : FuncData} {ps : List Str} {sp : Sp} {E : L2.St → XK} {x m : Str} {p : Pos} {e : Expr} {ta : TE} {t : TA}
theorem few_ok {args : List Expr} (hs : noStars args = true) (hl : args.length < 30) : methodCallForm (args.length + ([] : List Keyword).length) (backTo pos (starEach args X.env)) (backToKw pos (keywordEach [] X.env)) = true := by
  unfold methodCallForm
  have e1 : (backTo pos (starEach args X.env)).all (fun x => !x.1) = true := by
    rw [List.all_eq_true]
    intro y hy
    have h := star_any (X := X) hs
    rw [← backTo_any (pos := pos)] at h
    have := List.any_eq_false.mp h y hy
    simpa using this
  have e2 : (backToKw pos (keywordEach [] X.env)).all (fun x => x.1.isSome) = true := rfl
  rw [e1, e2]
  simp only [Bool.true_and, decide_eq_true_eq]
  show args.length + 0 + _ < 30
  have e3 : (backToKw pos (keywordEach [] X.env)).isEmpty = true := rfl
  rw [e3, if_pos rfl]
  omega
theorem eval_meth {o : Expr} {m : Str} {apos pos : Pos} {args : List Expr} (hb0 : baseOk o = true) (hs : noStars args = true) (hl : args.length < 30) (hline : (apos.endLine == pos.line) = true) : ∃ pl : Sem Bool, eval (.Call (.Attribute o m apos) args [] pos) X.env = (do
      let ov ← eval o X.env
      standAt apos.atName
      let (g, first) ← holding [ov] (getMethod ov m pl)
      callWith pos g first (backTo pos (starEach args X.env)) (backToKw pos (keywordEach [] X.env))) := by
  refine ⟨(do return (← importBound o X.env).getD true), ?_⟩
  show (do
    let ov ← attributeBase o m X.env (eval o X.env)
    standAt apos.atName
    methodCall o m apos pos X.env ov (args.length + ([] : List Keyword).length) (backTo pos (starEach args X.env)) (backToKw pos (keywordEach [] X.env))) = _
  rw [base_ok hb0]
  unfold methodCall
  rw [few_ok hs hl]
  unfold calleeOf methodCallPos
  rw [hline]
  rfl
theorem pe_methS {o : Expr} (hb0 : baseOk o = true) (he : PE X o ta) (c : Cls X.K C) (hm : Meth X.K C m f) (F : FnOk X.prog X.w X.K X.mg X.base CX k f fd ps sp) (hr : Room k X.A) (hb : Binds X.K fd ps []) (hx : ∀ σ, PassesAt CX X σ (E σ)) (hs : noStars (e :: es) = true) (hl : (e :: es).length < 30) (hline : (ap.endLine == pos.line) = true) (ha : PA X (e :: es) t) :
    PE X (.Call (.Attribute o m ap) (e :: es) [] pos) (tMethS C m sp E ta t) := by
  have hs' := hs
  simp only [noStars, List.all_cons, Bool.and_eq_true] at hs'
  obtain ⟨pl, ht⟩ := eval_meth (X := X) (m := m) (apos := ap) (pos := pos) (args := e :: es) hb0 hs hl hline
  refine ⟨fun pins s σ H Q I h => ?_⟩
  refine PySem.W.methodCall_KW (pl := pl) (thn (he.run pins s σ H _ I h) fun u s1 ⟨x, H1, I1, rx, a, dx, fs, ex, ea, l, q⟩ => ?_) ht
  subst ex
  cases (show u = Value.ref a from rx)
  refine getmeth_ok I1 ea c hm l ?_
  refine PySem.W.callWith_K (first := [.ref a]) (h₀ := X.base) I.ok.mod.kin hm.kp (thn (ha.run pos pins s1 σ H1 _ I1 q) fun us s2 ⟨vs, H2, I2, rr, q2⟩ => ⟨I2.kIn, ?_⟩) (star_cons hs'.1) (by rw [backTo_any]; exact star_any hs'.2)
  exact run_fnS (us := .ref a :: us) (vs := .ref a :: vs) F hr hb (hx σ) I2 (.cons rfl rr) q2
theorem pe_methS0 {o : Expr} (hb0 : baseOk o = true) (he : PE X o ta) (c : Cls X.K C) (hm : Meth X.K C m f) (F : FnOk X.prog X.w X.K X.mg X.base CX k f fd ps sp) (hr : Room k X.A) (hb : Binds X.K fd ps []) (hx : ∀ σ, PassesAt CX X σ (E σ)) (hline : (ap.endLine == pos.line) = true) :
    PE X (.Call (.Attribute o m ap) [] [] pos) (tMethS C m sp E ta tNil) := by
  obtain ⟨pl, ht⟩ := eval_meth (X := X) (m := m) (apos := ap) (pos := pos) (args := []) hb0 rfl (by decide) hline
  refine ⟨fun pins s σ H Q I h => ?_⟩
  refine PySem.W.methodCall_KW (pl := pl) (thn (he.run pins s σ H _ I h) fun u s1 ⟨x, H1, I1, rx, a, dx, fs, ex, ea, l, q⟩ => ?_) ht
  subst ex
  cases (show u = Value.ref a from rx)
  refine getmeth_ok I1 ea c hm l ?_
  exact PySem.W.callWith_K0 (first := [.ref a]) I1.kIn hm.kp (run_fnS (us := [.ref a]) (vs := [.ref a]) F hr hb (hx σ) I1 (.cons rfl .nil) q)
def tMakeS (C : Addr) (sp : Sp) (E : L2.St → XK) (t : TA) : TE := fun σ H Q => t σ H fun vs H1 => ∀ y dy, H1 y = none → H1 dy = none → dy ≠ y → sp (.ref y :: vs) (upd (upd H1 dy (.own y)) y (.ins C dy [])) (fun v H2 => v = .non ∧ Q (.ref y) H2) (E σ)
theorem run_makeS {pins : List (Addr × Obj)} {σ : L2.St} {H : Hp} {s : Shared} {Q : VK} {us : List Value} {vs : List V} (M : Mk X.K C f) (F : FnOk X.prog X.w X.K X.mg X.base CX k f fd ps sp) (hr : Room (k + 1) X.A) (hb : Binds X.K fd ps []) (hx : PassesAt CX X σ (E σ)) (I : Inv X pins σ H s) (rv : Vals vs us)
    (h : ∀ y dy, H y = none → H dy = none → dy ≠ y → sp (.ref y :: vs) (upd (upd H dy (.own y)) y (.ins C dy [])) (fun v H2 => v = .non ∧ Q (.ref y) H2) (E σ)) : wpAny (model X.prog X.w) X.A (call (.ref C) us) (EP X pins σ Q) X.xe s := by
  have z := h (s.heap.objs.size + 1) s.heap.objs.size (I.hok.fresh (Nat.le_succ _)) (I.hok.fresh (Nat.le_refl _)) (Nat.ne_of_lt (Nat.lt_succ_self _))
  have J := Inv.made (C := C) I
  have rv2 : Vals (V.ref (s.heap.objs.size + 1) :: vs) (Value.ref (s.heap.objs.size + 1) :: us) := .cons rfl rv
  have ln : (Value.ref (s.heap.objs.size + 1) :: us).length = ps.length := by rw [← rv2.length]; exact F.len _ _ _ _ z
  have bd := hb _ (Value.ref (s.heap.objs.size + 1) :: us) J.kIn (by rw [List.append_nil]; exact ln)
  rw [List.append_nil] at bd
  refine wpAny_call (make_map (f := f) I.kIn M.makes M.init (beq_iff_eq.mp M.fn) (codeAny_mono (F.run _ X.stack _ _ ⟨Value.ref (s.heap.objs.size + 1) :: us, []⟩ (Value.ref (s.heap.objs.size + 1) :: us) _ _ (E σ) (hr.make C us []) (J.env0.make C us []) bd rv2 z) fun r s' w => ?_))
  match r, w with
  | .error e, w => exact hx pins _ _ e s' J w
  | .ok (.ret u), w =>
    obtain ⟨v, H', J2, rw', ev, q⟩ := J.after w
    subst ev
    exact ⟨rw', ⟨V.ref (s.heap.objs.size + 1), H', J2, rfl, q⟩⟩
  | .ok .next, w => exact False.elim w
  | .ok .brk, w => exact False.elim w
  | .ok .cont, w => exact False.elim w
theorem pe_makeS (M : Mk X.K C f) (F : FnOk X.prog X.w X.K X.mg X.base CX k f fd ps sp) (hr : Room (k + 1) X.A) (hg : Gl X x) (hm : X.mg x = some (.ref C)) (hb : Binds X.K fd ps []) (hx : ∀ σ, PassesAt CX X σ (E σ)) (hd : plainNm x = true) (hs : noStars (e :: es) = true) (ha : PA X (e :: es) t) :
    PE X (.Call (.Name x p) (e :: es) [] pos) (tMakeS C sp E t) := by
  have hs' := hs
  simp only [noStars, List.all_cons, Bool.and_eq_true] at hs'
  refine ⟨fun pins s σ H Q I h => wpAny_Call_Name_kw (ld_glob I hg hm ?_ (plain_dbg hd))⟩
  refine PySem.W.callWith_K (h₀ := X.base) I.ok.mod.kin M.kp (thn (ha.run pos pins s σ H _ I h) fun us s1 ⟨vs, H1, I1, rr, q⟩ => ⟨I1.kIn, ?_⟩) (star_cons hs'.1) (by rw [backTo_any]; exact star_any hs'.2)
  exact run_makeS M F hr hb (hx σ) I1 rr q
theorem pe_makeS0 (M : Mk X.K C f) (F : FnOk X.prog X.w X.K X.mg X.base CX k f fd ps sp) (hr : Room (k + 1) X.A) (hg : Gl X x) (hm : X.mg x = some (.ref C)) (hb : Binds X.K fd ps []) (hx : ∀ σ, PassesAt CX X σ (E σ)) (hd : plainNm x = true) :
    PE X (.Call (.Name x p) [] [] pos) (tMakeS C sp E tNil) := by
  refine ⟨fun pins s σ H Q I h => wpAny_Call_Name_kw (ld_glob I hg hm ?_ (plain_dbg hd))⟩
  exact PySem.W.callWith_K0 I.kIn M.kp (run_makeS (us := []) M F hr hb (hx σ) I .nil h)
end
theorem isIns_of {x : W} {v : V} {C : Addr} {m : Str} (g : StOk X.K S H) (r : RepW X.K H x v) (h : isIns x C m S) : ∃ ad dx vs, v = .ref ad ∧ H ad = some (.ins C dx vs) ∧ vs.lookup m = none := by
  cases x <;> first | exact h.elim | skip
  rename_i ad
  cases r
  unfold isIns at h
  dsimp only at h
  split at h
  · rename_i D fs e
    obtain ⟨rfl, h⟩ := h
    obtain ⟨dx, vs, hv, rf⟩ := g _ _ e
    exact ⟨ad, dx, vs, rfl, hv, rf.look.2 h⟩
  · exact h.elim
theorem snd_meth {k : Nat} {f C : Addr} {fd : FuncData} {ps : List Str} {m : MSp} {n : Str} (hb0 : baseOk a = true) (cl : Cls X.K C) (hm : Meth X.K C n f) (F : FnOk X.prog X.w X.K X.mg X.base (L2.CX X.prog X.w) k f fd ps (liftSp X.K m)) (hr : Room k X.A) (hb : Binds X.K fd ps []) (tk : Takes X Wx)
    (hs : noStars (c :: es) = true) (hl : (c :: es).length < 30) (hline : (ap.endLine == pos.line) = true) (ha : PE X a (liftE X.K Wx ma)) (hes : PA X (c :: es) (liftA X.K Wx mes)) :
    Snd X Wx (.Call (.Attribute a n ap) (c :: es) [] pos) (fun σ S Q E => ma σ S (fun x S1 => isIns x C n S1 ∧ mes σ S1 (fun ws S2 => m (x :: ws) S2 Q E) E) E) := by
  refine Snd.plain (pe_weak (pe_methS (E := fun Z => WE Wx Z) hb0 ha cl hm F hr hb (fun σ => passAt tk σ) hs hl hline hes) fun Z H QV ⟨σ, S, Q, E, g, h, p, px⟩ => ?_) (fun _ => rfl) (fun ⟨_, _, _, z⟩ => by cases z)
  refine ⟨σ, S, _, E, g, h, fun x S1 v H1 h1 g1 e1 r1 => ?_, px⟩
  obtain ⟨ad, dx, vs, rfl, hv, hn⟩ := isIns_of g1.st r1 h1.1
  refine ⟨ad, dx, vs, rfl, hv, hn, σ, S1, _, E, g1, h1.2, fun ws S2 us H2 h2 g2 e2 r2 => ?_, px.next e1⟩
  exact liftSp_of g2 (.cons (e2.rep g1.st r1) r2) h2 (p.next (e1.trans e2)) (px.next (e1.trans e2))
theorem snd_meth0 {k : Nat} {f C : Addr} {fd : FuncData} {ps : List Str} {m : MSp} {n : Str} (hb0 : baseOk a = true) (cl : Cls X.K C) (hm : Meth X.K C n f) (F : FnOk X.prog X.w X.K X.mg X.base (L2.CX X.prog X.w) k f fd ps (liftSp X.K m)) (hr : Room k X.A) (hb : Binds X.K fd ps []) (tk : Takes X Wx)
    (hline : (ap.endLine == pos.line) = true) (ha : PE X a (liftE X.K Wx ma)) :
    Snd X Wx (.Call (.Attribute a n ap) [] [] pos) (fun σ S Q E => ma σ S (fun x S1 => isIns x C n S1 ∧ m [x] S1 Q E) E) := by
  refine Snd.plain (pe_weak (pe_methS0 (E := fun Z => WE Wx Z) hb0 ha cl hm F hr hb (fun σ => passAt tk σ) hline) fun Z H QV ⟨σ, S, Q, E, g, h, p, px⟩ => ?_) (fun _ => rfl) (fun ⟨_, _, _, z⟩ => by cases z)
  refine ⟨σ, S, _, E, g, h, fun x S1 v H1 h1 g1 e1 r1 => ?_, px⟩
  obtain ⟨ad, dx, vs, rfl, hv, hn⟩ := isIns_of g1.st r1 h1.1
  exact ⟨ad, dx, vs, rfl, hv, hn, liftSp_of g1 (.cons r1 .nil) h1.2 (p.next e1) (px.next e1)⟩
theorem make_of {C : Addr} {m : MSp} {ws : List W} {vs : List V} {Q : WQ} {E : XQ} {QV : VK} (g : Gd X.K σ S Z H) (r : RepWs X.K H ws vs) (h : ∀ p, S p = none → m (.ref p :: ws) (put S p (.ins C [])) (fun w S2 => w = .non ∧ Q (.ref p) S2) E) (p : PostE X.K σ S Z H Q QV) (px : PostX X.K Wx σ S Z H E) :
    ∀ y dy, H y = none → H dy = none → dy ≠ y → liftSp X.K m (.ref y :: vs) (upd (upd H dy (.own y)) y (.ins C dy [])) (fun v H2 => v = .non ∧ QV (.ref y) H2) (WE Wx Z) := fun y dy hy hdy hne => by
  have x1 : Ext S H S (upd H dy (.own y)) := Ext.fresh hdy
  have hy2 : upd H dy (.own y) y = none := by rw [upd_ne (Ne.symm hne)]; exact hy
  have x2 : Ext S (upd H dy (.own y)) (put S y (.ins C [])) (upd (upd H dy (.own y)) y (.ins C dy [])) := Ext.new hy2
  have x := x1.trans x2
  have s1 : StOk X.K S (upd H dy (.own y)) := g.st.fresh hdy
  have s2 : StOk X.K (put S y (.ins C [])) (upd (upd H dy (.own y)) y (.ins C dy [])) := s1.put_at x2 (fun b v n e => by rw [upd_ne n]; exact e) ⟨dy, [], upd_same, trivial⟩
  refine ⟨.ref y :: ws, put S y (.ins C []), _, E, .cons (.ref y) (x.reps g.st r), s2, h y (g.st.free hy), fun w S' v H' q s' e' r' => ?_, fun D S' H' q s' e' => px D S' H' q (g.next (x.trans e') s') (x.trans e')⟩
  obtain ⟨rfl, q⟩ := q
  cases r'
  exact ⟨rfl, p _ _ _ _ q (g.next (x.trans e') s') (x.trans e') (.ref y)⟩
theorem snd_make {k : Nat} {f C : Addr} {fd : FuncData} {ps : List Str} {m : MSp} {x : Str} {p : Pos} (M : Mk X.K C f) (F : FnOk X.prog X.w X.K X.mg X.base (L2.CX X.prog X.w) k f fd ps (liftSp X.K m)) (hr : Room (k + 1) X.A) (hg : Gl X x) (hm : X.mg x = some (.ref C)) (hb : Binds X.K fd ps []) (tk : Takes X Wx) (hd : plainNm x = true)
    (hs : noStars (c :: es) = true) (hes : PA X (c :: es) (liftA X.K Wx mes)) :
    Snd X Wx (.Call (.Name x p) (c :: es) [] pos) (fun σ S Q E => mes σ S (fun ws S1 => ∀ p, S1 p = none → m (.ref p :: ws) (put S1 p (.ins C [])) (fun w S2 => w = .non ∧ Q (.ref p) S2) E) E) := by
  refine Snd.plain (pe_weak (pe_makeS (E := fun Z => WE Wx Z) M F hr hg hm hb (fun σ => passAt tk σ) hd hs hes) fun Z H QV ⟨σ, S, Q, E, g, h, p, px⟩ => ?_) (fun _ => rfl) (fun ⟨_, _, _, z⟩ => by cases z)
  refine ⟨σ, S, _, E, g, h, fun ws S1 vs H1 h1 g1 e1 r1 => ?_, px⟩
  exact make_of g1 r1 h1 (p.next e1) (px.next e1)
theorem snd_make0 {k : Nat} {f C : Addr} {fd : FuncData} {ps : List Str} {m : MSp} {x : Str} {p : Pos} (M : Mk X.K C f) (F : FnOk X.prog X.w X.K X.mg X.base (L2.CX X.prog X.w) k f fd ps (liftSp X.K m)) (hr : Room (k + 1) X.A) (hg : Gl X x) (hm : X.mg x = some (.ref C)) (hb : Binds X.K fd ps []) (tk : Takes X Wx) (hd : plainNm x = true) :
    Snd X Wx (.Call (.Name x p) [] [] pos) (fun σ S Q E => ∀ p, S p = none → m [.ref p] (put S p (.ins C [])) (fun w S2 => w = .non ∧ Q (.ref p) S2) E) := by
  refine Snd.plain (pe_weak (pe_makeS0 (E := fun Z => WE Wx Z) M F hr hg hm hb (fun σ => passAt tk σ) hd) fun Z H QV ⟨σ, S, Q, E, g, h, p, px⟩ => ?_) (fun _ => rfl) (fun ⟨_, _, _, z⟩ => by cases z)
  exact make_of g .nil h p px
end
section
variable {X : Cx} {Wx : WX} {σ : Envr} {S : Sto} {Z : L2.St} {H : Hp}
variable {a b c r0 : Expr} {pos ap : Pos} {ma mb mc : MTE} {ml : Envr → Sto → LQ → XQ → Prop}
theorem relV_kW {K : PySem.W.Frag} (k : Key) : RepW K H (kW k) (kV k) := by
  cases k with
  | inl i => exact .int i
  | inr x => exact .str x
theorem snd_glb {x : Str} {k : Key} {u : Value} (hg : Gl X x) (hm : X.mg x = some u) (r : RelV (kV k) u) (hd : plainNm x = true) : Snd X Wx (.Name x pos) (fun _ S Q _ => Q (kW k) S) :=
  Snd.plain (pe_weak (pe_glob hg hm r (plain_dbg hd)) fun Z H QV ⟨σ, S, Q, E, g, h, p, px⟩ => p _ _ _ _ h g .refl (relV_kW k)) (fun _ => rfl) (fun ⟨_, _, _, z⟩ => by cases z)
theorem snd_strI {p : Pos} (hg : Gl X "str") (hm : X.mg "str" = none) (h1 : notStar a = true) (ha : PE X a (liftE X.K Wx ma)) :
    Snd X Wx (.Call (.Name "str" p) [a] [] pos) (fun σ S Q E => ma σ S (fun x S1 => strW x fun w => Q w S1) E) := by
  refine call_plain (pe_blt1 (op := fun x S Q => strW x fun w => Q w S) (callOk_t (call_str_int.or SkE.call_str_str) hg hm PyProof.Rows.boot_str (by decide) (by decide)) h1 ha fun w v σ S Z H Q QV g r h p => ?_)
  cases w <;> first | exact h.elim | skip
  · cases r
    exact .inl ⟨_, rfl, h.1, p _ _ _ _ h.2 g .refl (.str _)⟩
  · cases r
    exact .inr ⟨_, rfl, p _ _ _ _ h g .refl (.str _)⟩
theorem snd_intE {p : Pos} (hg : Gl X "int") (hm : X.mg "int" = none) (h1 : notStar a = true) (ha : PE X a (liftE X.K Wx ma)) :
    Snd X Wx (.Call (.Name "int" p) [a] [] pos) (fun σ S Q E => ma σ S (fun x S1 => intW x fun w => Q w S1) E) := by
  refine call_plain (pe_blt1 (op := fun x S Q => intW x fun w => Q w S) (callOk_t call_int1 hg hm PyProof.Rows.boot_int (by decide) (by decide)) h1 ha fun w v σ S Z H Q QV g r h p => ?_)
  cases w <;> first | exact h.elim | skip
  · cases r; exact .inr ⟨_, rfl, p _ _ _ _ h g .refl (.int _)⟩
  · cases r; exact .inl ⟨_, rfl, p _ _ _ _ h g .refl (.int _)⟩
theorem snd_absI {p : Pos} (hg : Gl X "abs") (hm : X.mg "abs" = none) (h1 : notStar a = true) (ha : PE X a (liftE X.K Wx ma)) :
    Snd X Wx (.Call (.Name "abs" p) [a] [] pos) (fun σ S Q E => ma σ S (fun x S1 => absW x fun w => Q w S1) E) := by
  refine call_plain (pe_blt1 (op := fun x S Q => absW x fun w => Q w S) (callOk_b call_abs hg hm PyProof.Rows.boot_abs (by decide) (by decide)) h1 ha fun w v σ S Z H Q QV g r h p => ?_)
  cases w <;> first | exact h.elim | skip
  cases r
  exact ⟨_, rfl, p _ _ _ _ h g .refl (.int _)⟩
theorem snd_isx {x : Expr} {y : Str} {p p2 : Pos} {D ad : Addr} {cv : Value} {cw : V} {b : Bool} (hr : CallR X (.builtin "isinstance") (rIsE X.K D ad)) (hg : Gl X "isinstance") (hm : X.mg "isinstance" = none) (hc : PE X (.Name y p2) (tC cw)) (hcv : ∀ u, RelV cw u → u = cv) (hk : PySem.W.kitOne X.K (.ref D) cv = some b) (h1 : notStar x = true) (ha : PE X x (liftE X.K Wx ma)) :
    Snd X Wx (.Call (.Name "isinstance" p) [x, .Name y p2] [] pos) (fun σ S Q E => ma σ S (fun x S1 => x = .ref ad ∧ Q (.bl b) S1) E) := by
  refine call_plain (pe_weak ((callOk_b hr hg hm PyProof.Rows.boot_isinstance (by decide) (by decide)) (by simp only [noStars, List.all_cons, h1, Bool.true_and]; rfl) (pa_cons ha (pa_cons hc pa_nil (star_cons rfl)) (star_cons h1))) fun Z H QV ⟨σ, S, Q, E, g, h, p, px⟩ => ?_)
  refine ⟨σ, S, _, E, g, h, fun w S1 v H1 q g1 e1 r1 => ?_, px⟩
  obtain ⟨rfl, q⟩ := q
  cases r1
  exact ⟨cw, cv, b, rfl, hcv, hk, p _ _ _ _ q g1 e1 (.bl _)⟩
def tAs (vs : List V) : TA := fun _ H Q => Q vs H
theorem snd_isxT {x : Expr} {ys : List Expr} {p p2 : Pos} {k : Nat} {D ad : Addr} {cs : List V} {us : List Value} {b : Bool} (hr : CallR X (.builtin "isinstance") (rIsET X.K D ad)) (hg : Gl X "isinstance") (hm : X.mg "isinstance" = none) (hp : PA X ys (tAs cs)) (hl : cs.length ≤ sizeLine) (hc : Paired ClsV cs us) (hk : PySem.W.kitAny X.K (.ref D) us = some b) (h1 : notStar x = true) (ha : PE X x (liftE X.K Wx ma)) :
    Snd X Wx (.Call (.Name "isinstance" p) [x, .Tuple ys k p2] [] pos) (fun σ S Q E => ma σ S (fun x S1 => x = .ref ad ∧ Q (.bl b) S1) E) := by
  refine call_plain (pe_weak ((callOk_b hr hg hm PyProof.Rows.boot_isinstance (by decide) (by decide)) (by simp only [noStars, List.all_cons, h1, Bool.true_and]; rfl) (pa_cons ha (pa_cons (pe_tup hp) pa_nil (star_cons rfl)) (star_cons h1))) fun Z H QV ⟨σ, S, Q, E, g, h, p, px⟩ => ?_)
  refine ⟨σ, S, _, E, g, h, fun w S1 v H1 q g1 e1 r1 => ?_, px⟩
  obtain ⟨rfl, q⟩ := q
  cases r1
  refine ⟨hl, fun tp htp => ?_⟩
  exact ⟨tp, cs, us, b, rfl, upd_same, hc, hk, p _ _ _ _ q (g1.next (Ext.fresh htp) (g1.st.fresh htp)) (e1.trans (Ext.fresh htp)) (.bl _)⟩
theorem strsOf_eq : ∀ {ws : List W} {ns : List Str}, strsOf ws = some ns → ws = ns.map W.str
  | [], _, h => by cases h; rfl
  | .str i :: r, ns, h => by
    simp only [strsOf] at h
    cases e : strsOf r with
    | none => rw [e] at h; cases h
    | some ms => rw [e] at h; cases h; rw [strsOf_eq e]; rfl
  | .non :: _, _, h => by cases h
  | .int _ :: _, _, h => by cases h
  | .bl _ :: _, _, h => by cases h
  | .ref _ :: _, _, h => by cases h
  | .ty _ :: _, _, h => by cases h
  | .tup _ :: _, _, h => by cases h
  | .rol _ :: _, _, h => by cases h
theorem RepWs.strs {K : PySem.W.Frag} : ∀ {ns : List Str} {vs : List V}, RepWs K H (ns.map W.str) vs → vs = ns.map V.str
  | [], _, .nil => rfl
  | _ :: _, _, .cons (.str i) t => by rw [RepWs.strs t]; rfl
theorem snd_join (hl : (ap.endLine == pos.line) = true) (h1 : notStar a = true) (hb0 : baseOk r0 = true) (ho : PE X r0 (liftE X.K Wx ma)) (ha : PE X a (liftL X.K Wx ml)) :
    Snd X Wx (.Call (.Attribute r0 "join" ap) [a] [] pos) (fun σ S Q E => ma σ S (fun x S1 => (∃ z, x = .str z) ∧ ml σ S1 (fun ws _ _ S2 => joinW x ws fun w => Q w S2) E) E) := by
  refine Snd.plain (pe_weak (pe_bm PySem.F.plainAttrs_str PySem.F.slot_str_join PySem.F.type_str_join mt_join ho (pa_cons ha pa_nil (star_cons h1)) (base_ok hb0) (bm_few h1) hl (star_cons h1) rfl) fun Z H QV ⟨σ, S, Q, E, g, h, p, px⟩ => ?_) (fun _ => rfl) (fun ⟨_, _, _, z⟩ => by cases z)
  refine ⟨σ, S, _, E, g, h, fun x S1 v1 H1 h1 g1 e1 r1 => ?_, px⟩
  obtain ⟨⟨z, rfl⟩, h1⟩ := h1
  cases r1
  refine ⟨rfl, σ, S1, _, E, g1, h1, fun ws k st S2 v2 H2 h2 g2 e2 r2 => ?_, px.next e1⟩
  unfold joinW at h2
  dsimp only at h2
  cases es : strsOf ws with
  | none => rw [es] at h2; exact h2.elim
  | some ys =>
    rw [es] at h2
    obtain ⟨p1, vs1, rfl, rr1, ka1⟩ := r2.now g2.st
    rw [strsOf_eq es] at rr1
    obtain rfl := rr1.strs
    exact ⟨z, p1, ys, rfl, rfl, ka1.seq, h2.1, p _ _ _ _ h2.2 g2 (e1.trans e2) (.str _)⟩
theorem lstW_of {x : W} {v : V} {Q : Addr → List W → Prop} {K : PySem.W.Frag} (g : StOk K S H) (r : RepW K H x v) (h : lstW x S Q) : ∃ l ws vs, x = .ref l ∧ v = .ref l ∧ S l = some (.lst ws) ∧ H l = some (.lst vs) ∧ RepWs K H ws vs ∧ Q l ws := by
  cases x <;> first | exact h.elim | skip
  rename_i l
  cases r
  unfold lstW at h
  dsimp only at h
  split at h
  · rename_i ws e
    obtain ⟨vs, hv, rv⟩ := g _ _ e
    exact ⟨l, ws, vs, rfl, rfl, e, hv, rv, h⟩
  · exact h.elim
theorem bm_few2 {pos : Pos} (h1 : notStar a = true) (h2 : notStar b = true) : ((backTo pos (starEach [a, b] X.env)).all (fun x => !x.1) && (backToKw pos (keywordEach [] X.env)).all (fun x => x.1.isSome)
      && decide ([a, b].length + ([] : List Keyword).length + (if ([] : List Keyword).isEmpty then 0 else 1) < 30)) = true := by
  rw [star_cons h1, star_cons h2]; rfl
theorem snd_ins {d : Expr} {md : MTE} (hl : (ap.endLine == pos.line) = true) (h1 : notStar a = true) (h2 : notStar d = true) (hb0 : baseOk r0 = true) (ho : PE X r0 (liftE X.K Wx ma)) (ha : PE X a (liftE X.K Wx mb)) (hd : PE X d (liftE X.K Wx md)) :
    Snd X Wx (.Call (.Attribute r0 "insert" ap) [a, d] [] pos) (fun σ S Q E => ma σ S (fun x S1 => isLst x S1 ∧ mb σ S1 (fun y S2 => md σ S2 (fun z S3 => lstW x S3 fun a ws => match y with
    | .int k => ws.length < sizeLine ∧ 0 ≤ k ∧ k < 2 ^ 63 ∧ Q .non (put S3 a (.lst (ws.take k.toNat ++ [z] ++ ws.drop k.toNat)))
    | _ => False) E) E) E) := by
  refine Snd.plain (pe_weak (pe_bm PySem.F.plainAttrs_list PySem.F.slot_list_insert PySem.F.type_list_insert mt_insert ho (pa_cons ha (pa_cons hd pa_nil (star_cons h2)) (star_cons h1)) (base_ok hb0) (bm_few2 h1 h2) hl (star_cons h1) (by rw [backTo_any]; exact star_any (by simp [noStars, h2]))) fun Z H QV ⟨σ, S, Q, E, g, h, p, px⟩ => ?_) (fun _ => rfl) (fun ⟨_, _, _, z⟩ => by cases z)
  refine ⟨σ, S, _, E, g, h, fun x S1 v1 H1 h1 g1 e1 r1 => ⟨isLst_ty g1.st r1 h1.1, ?_⟩, px⟩
  refine ⟨σ, S1, _, E, g1, h1.2, fun y S2 v2 H2 h2 g2 e2 r2 => ?_, px.next e1⟩
  refine ⟨σ, S2, _, E, g2, h2, fun z S3 v3 H3 h3 g3 e3 r3 => ?_, px.next (e1.trans e2)⟩
  obtain ⟨l, ws, vs, rfl, rfl, e, hv, rv, h3⟩ := lstW_of g3.st ((e2.trans e3).rep g1.st r1) h3
  cases y <;> first | exact h3.elim | skip
  cases r2
  obtain ⟨k1, k2, k3, k4⟩ := h3
  exact ⟨l, vs, _, v3, rfl, rfl, hv, by rw [← rv.length]; exact k1, k2, k3, post_set (p.next ((e1.trans e2).trans e3)) g3 e (((rv.take _).append (.cons r3 .nil)).append (rv.drop _)) .non k4⟩
theorem snd_rem (hl : (ap.endLine == pos.line) = true) (h1 : notStar a = true) (hb0 : baseOk r0 = true) (ho : PE X r0 (liftE X.K Wx ma)) (ha : PE X a (liftE X.K Wx mb)) :
    Snd X Wx (.Call (.Attribute r0 "remove" ap) [a] [] pos) (fun σ S Q E => ma σ S (fun x S1 => isLst x S1 ∧ mb σ S1 (fun y S2 => remW x y S2 fun S3 => Q .non S3) E) E) := by
  refine Snd.plain (pe_weak (pe_bm PySem.F.plainAttrs_list PySem.F.slot_list_remove PySem.F.type_list_remove mt_remove ho (pa_cons ha pa_nil (star_cons h1)) (base_ok hb0) (bm_few h1) hl (star_cons h1) rfl) fun Z H QV ⟨σ, S, Q, E, g, h, p, px⟩ => ?_) (fun _ => rfl) (fun ⟨_, _, _, z⟩ => by cases z)
  refine ⟨σ, S, _, E, g, h, fun x S1 v1 H1 h1 g1 e1 r1 => ⟨isLst_ty g1.st r1 h1.1, ?_⟩, px⟩
  refine ⟨σ, S1, _, E, g1, h1.2, fun y S2 v2 H2 h2 g2 e2 r2 => ?_, px.next e1⟩
  obtain ⟨l, ws, vs, rfl, rfl, e, hv, rv, h3⟩ := lstW_of g2.st (e2.rep g1.st r1) h2
  split at h3
  · rename_i ns k en
    cases r2
    rw [intsOf_eq en] at rv
    obtain rfl := rv.ints
    obtain ⟨j, j1, j2, j3⟩ := h3
    exact ⟨l, ns, k, j, rfl, rfl, hv, j1, j2, post_set (p.next (e1.trans e2)) g2 e (RepWs.ofInts _) .non j3⟩
  · exact h3.elim
theorem flat_ints (ns : List Int) : (ns.map V.int).all flatV = true := by
  induction ns with
  | nil => rfl
  | cons n ns ih => rw [List.map_cons, List.all_cons, ih]; rfl
theorem snd_ixo (hl : (ap.endLine == pos.line) = true) (h1 : notStar a = true) (hb0 : baseOk r0 = true) (ho : PE X r0 (liftE X.K Wx ma)) (ha : PE X a (liftE X.K Wx mb)) :
    Snd X Wx (.Call (.Attribute r0 "index" ap) [a] [] pos) (fun σ S Q E => ma σ S (fun x S1 => isLst x S1 ∧ mb σ S1 (fun y S2 => ixoW x y S2 fun w => Q w S2) E) E) := by
  refine Snd.plain (pe_weak (pe_bm PySem.F.plainAttrs_list PySem.F.slot_list_index PySem.F.type_list_index mt_index ho (pa_cons ha pa_nil (star_cons h1)) (base_ok hb0) (bm_few h1) hl (star_cons h1) rfl) fun Z H QV ⟨σ, S, Q, E, g, h, p, px⟩ => ?_) (fun _ => rfl) (fun ⟨_, _, _, z⟩ => by cases z)
  refine ⟨σ, S, _, E, g, h, fun x S1 v1 H1 h1 g1 e1 r1 => ⟨isLst_ty g1.st r1 h1.1, ?_⟩, px⟩
  refine ⟨σ, S1, _, E, g1, h1.2, fun y S2 v2 H2 h2 g2 e2 r2 => ?_, px.next e1⟩
  obtain ⟨l, ws, vs, rfl, rfl, e, hv, rv, h3⟩ := lstW_of g2.st (e2.rep g1.st r1) h2
  split at h3
  · rename_i ns k en
    cases r2
    rw [intsOf_eq en] at rv
    obtain rfl := rv.ints
    obtain ⟨j, j1, j2, j3⟩ := h3
    refine ⟨l, _, .int k, j, .int k, rfl, rfl, SqL.of hv, rfl, flat_ints ns, by rw [List.getElem?_map, j1]; rfl, by simp [eqV], fun m z' hm hz => ?_, p _ _ _ _ j3 g2 (e1.trans e2) (.int _)⟩
    rw [List.getElem?_map] at hz
    cases ez : ns[m]? with
    | none => rw [ez] at hz; cases hz
    | some i =>
      rw [ez] at hz; cases hz
      have := j2 m hm
      rw [ez] at this
      simp [eqV]
      intro q; exact this (by rw [q])
  · exact h3.elim
theorem snd_revm (hl : (ap.endLine == pos.line) = true) (hb0 : baseOk r0 = true) (ho : PE X r0 (liftE X.K Wx ma)) :
    Snd X Wx (.Call (.Attribute r0 "reverse" ap) [] [] pos) (fun σ S Q E => ma σ S (fun x S1 => lstW x S1 fun a ws => Q .non (put S1 a (.lst ws.reverse))) E) := by
  refine Snd.plain (pe_weak (pe_bm0 PySem.F.plainAttrs_list PySem.F.slot_list_reverse PySem.F.type_list_reverse mt_reverse ho (base_ok hb0) hl) fun Z H QV ⟨σ, S, Q, E, g, h, p, px⟩ => ?_) (fun _ => rfl) (fun ⟨_, _, _, z⟩ => by cases z)
  refine ⟨σ, S, _, E, g, h, fun x S1 v1 H1 h1 g1 e1 r1 => ?_, px⟩
  obtain ⟨l, ws, vs, rfl, rfl, e, hv, rv, h3⟩ := lstW_of g1.st r1 h1
  exact ⟨.inl ⟨rfl, _, SqL.of hv⟩, l, vs, rfl, rfl, hv, post_set (p.next e1) g1 e rv.reverse .non h3⟩
theorem snd_clr (hl : (ap.endLine == pos.line) = true) (hb0 : baseOk r0 = true) (ho : PE X r0 (liftE X.K Wx ma)) :
    Snd X Wx (.Call (.Attribute r0 "clear" ap) [] [] pos) (fun σ S Q E => ma σ S (fun x S1 => lstW x S1 fun a _ => Q .non (put S1 a (.lst []))) E) := by
  refine Snd.plain (pe_weak (pe_bm0 PySem.F.plainAttrs_list PySem.F.slot_list_clear PySem.F.type_list_clear mt_clear ho (base_ok hb0) hl) fun Z H QV ⟨σ, S, Q, E, g, h, p, px⟩ => ?_) (fun _ => rfl) (fun ⟨_, _, _, z⟩ => by cases z)
  refine ⟨σ, S, _, E, g, h, fun x S1 v1 H1 h1 g1 e1 r1 => ?_, px⟩
  obtain ⟨l, ws, vs, rfl, rfl, e, hv, rv, h3⟩ := lstW_of g1.st r1 h1
  exact ⟨.inl ⟨rfl, _, SqL.of hv⟩, l, vs, rfl, rfl, hv, post_set (p.next e1) g1 e .nil .non h3⟩
theorem RepWs.flat {K : PySem.W.Frag} {ws : List W} {vs : List V} (r : RepWs K H ws vs) (n : Nat) : RepWs K H (List.replicate n ws).flatten (List.replicate n vs).flatten := by
  induction n with
  | zero => exact .nil
  | succ n ih => rw [List.replicate_succ, List.replicate_succ, List.flatten_cons, List.flatten_cons]; exact r.append ih
theorem sndT_rep (ha : PE X a (liftL X.K Wx ml)) (hb : PE X b (liftE X.K Wx mb)) :
    SndT X Wx (.BinOp a .Mult b pos) (fun σ S Q E => ml σ S (fun xs k st S1 => mb σ S1 (fun y S2 => match y with
    | .int i => k = .ls ∧ st S2 ∧ 0 ≤ i ∧ i ≤ 1000000 ∧ xs.length * i.toNat ≤ sizeLine ∧ Q (List.replicate i.toNat xs).flatten S2
    | _ => False) E) E) := by
  refine ⟨pe_weak (pe_op op_rep ha hb) fun Z H QV ⟨σ, S, Q, E, g, h, p, px⟩ => ?_, fun _ => rfl, fun ⟨_, _, _, z⟩ => by cases z⟩
  refine ⟨σ, S, _, E, g, h, fun xs k st S1 v1 H1 h1 g1 e1 r1 => ?_, px⟩
  refine ⟨σ, S1, _, E, g1, h1, fun y S2 v2 H2 h2 g2 e2 r2 => ?_, px.next e1⟩
  cases y <;> first | exact h2.elim | skip
  cases r2
  obtain ⟨rfl, hst, k1, k2, k3, hq⟩ := h2
  obtain ⟨p1, vs1, rfl, rr1, ka1⟩ := (r1.next e2 hst).now g2.st
  exact ⟨p1, _, vs1, rfl, rfl, ka1, by omega, by omega, by rw [← rr1.length]; exact k3, fun l hl => post_lst (PostT.next p (e1.trans e2)) g2 hl (rr1.flat _) hq⟩
theorem snd_dnew {t : Bool} : Snd X Wx (.Dict [] [] pos) (fun _ S Q _ => ∀ p, S p = none → Q (.ref p) (put S p (if t = true then .dt false [] else .dk false []))) := by
  cases t with
  | true =>
    refine Snd.plain (pe_weak pe_dnewT fun Z H QV ⟨σ, S, Q, E, g, h, p, px⟩ => ?_) (fun _ => rfl) (fun ⟨_, _, _, z⟩ => by cases z)
    intro q hq
    have x : Ext S H (put S q (.dt false [])) (upd H q (.dT [])) := Ext.new hq
    exact p _ _ _ _ (h q (g.st.free hq)) (g.next x (g.st.put_at x (fun b v n e => by rw [upd_ne n]; exact e) ⟨[], upd_same, trivial⟩)) x (.ref q)
  | false =>
    refine Snd.plain (pe_weak pe_dnewK fun Z H QV ⟨σ, S, Q, E, g, h, p, px⟩ => ?_) (fun _ => rfl) (fun ⟨_, _, _, z⟩ => by cases z)
    intro q hq
    have x : Ext S H (put S q (.dk false [])) (upd H q (.dK [])) := Ext.new hq
    exact p _ _ _ _ (h q (g.st.free hq)) (g.next x (g.st.put_at x (fun b v n e => by rw [upd_ne n]; exact e) ⟨[], upd_same, trivial⟩)) x (.ref q)
theorem m1_of {m : Str} (hl : (ap.endLine == pos.line) = true) (h1 : notStar a = true) (hb0 : baseOk r0 = true) : M1 X r0 m ap a pos := ⟨base_ok hb0, bm_few h1, hl, by rw [star_cons h1]; rfl⟩
theorem m2_of {m : Str} (hl : (ap.endLine == pos.line) = true) (h1 : notStar a = true) (h2 : notStar b = true) (hb0 : baseOk r0 = true) : M2 X r0 m ap a b pos := ⟨base_ok hb0, bm_few2 h1 h2, hl, by rw [star_cons h1, star_cons h2]; rfl⟩
theorem snd_dpop (hl : (ap.endLine == pos.line) = true) (h1 : notStar a = true) (hb0 : baseOk r0 = true) (ho : PE X r0 (liftE X.K Wx ma)) (ha : PE X a (liftE X.K Wx mb)) :
    Snd X Wx (.Call (.Attribute r0 "pop" ap) [a] [] pos) (fun σ S Q E => ma σ S (fun x S1 => (∃ a kvs, x = .ref a ∧ S1 a = some (.dk false kvs)) ∧ mb σ S1 (fun y S2 => dkW x S2 fun a kvs => match keyW y with
    | some k => (match valD kvs k with
      | some w => Q w (put S2 a (.dk false (dropD kvs k)))
      | none => False)
    | none => False) E) E) := by
  refine Snd.plain (pe_weak (pe_dpop1 ho ha (m1_of hl h1 hb0)) fun Z H QV ⟨σ, S, Q, E, g, h, p, px⟩ => ?_) (fun _ => rfl) (fun ⟨_, _, _, z⟩ => by cases z)
  refine ⟨σ, S, _, E, g, h, fun x S1 v1 H1 h1 g1 e1 r1 => ?_, px⟩
  obtain ⟨⟨ad, kvs0, rfl, e0⟩, h1⟩ := h1
  cases r1
  obtain ⟨vs0, hv0, _⟩ := g1.st _ _ e0
  refine ⟨ad, rfl, .inl ⟨vs0, .inl hv0⟩, σ, S1, _, E, g1, h1, fun y S2 v2 H2 h2 g2 e2 r2 => ?_, px.next e1⟩
  unfold dkW at h2
  dsimp only at h2
  split at h2
  · rename_i kvs e
    obtain ⟨vs, hv, rf⟩ := g2.st _ _ e
    split at h2
    · rename_i k hk
      split at h2
      · rename_i w ew
        obtain ⟨v, ev, rv⟩ := rf.val.1 w ew
        have x : Ext S2 H2 (put S2 ad (.dk false (dropD kvs k))) (upd H2 ad (.dK (dropK vs k))) := Ext.write (by rw [e]; exact fun z => by cases z) (g2.st.nfK e)
        exact ⟨vs, k, v, hv, keyW_rep r2 hk, ev, p _ _ _ _ h2 (g2.next x (g2.st.setDk e rf.drop)) ((e1.trans e2).trans x) (x.rep g2.st rv)⟩
      · exact h2.elim
    · exact h2.elim
  · exact h2.elim
theorem snd_dget {d : Expr} {md : MTE} (hu : X.A.units + 1 < cLine) (hl : (ap.endLine == pos.line) = true) (h1 : notStar a = true) (h2 : notStar d = true) (hb0 : baseOk r0 = true) (ho : PE X r0 (liftE X.K Wx ma)) (ha : PE X a (liftE X.K Wx mb)) (hd : PE X d (liftE X.K Wx md)) :
    Snd X Wx (.Call (.Attribute r0 "get" ap) [a, d] [] pos) (fun σ S Q E => ma σ S (fun x S1 => (∃ a, x = .ref a ∧ ((∃ f kvs, S1 a = some (.dk f kvs)) ∨ ∃ f kvs, S1 a = some (.dt f kvs))) ∧ mb σ S1 (fun y S2 => md σ S2 (fun z S3 => dgetW x y z S3 fun w => Q w S3) E) E) E) := by
  refine Snd.plain (pe_weak (pe_dget2 hu ho ha hd (m2_of hl h1 h2 hb0)) fun Z H QV ⟨σ, S, Q, E, g, h, p, px⟩ => ?_) (fun _ => rfl) (fun ⟨_, _, _, z⟩ => by cases z)
  refine ⟨σ, S, _, E, g, h, fun x S1 v1 H1 h1 g1 e1 r1 => ?_, px⟩
  obtain ⟨⟨ad, rfl, hd⟩, h1⟩ := h1
  cases r1
  have isd : IsD H1 ad := by
    rcases hd with ⟨f, kvs, e⟩ | ⟨f, kvs, e⟩
    · obtain ⟨vs, ez, _⟩ := g1.st _ _ e; exact .inl ⟨vs, ez.rd⟩
    · obtain ⟨vs, ez, _⟩ := g1.st _ _ e; exact .inr ⟨vs, ez.rd⟩
  refine ⟨ad, rfl, isd, σ, S1, _, E, g1, h1, fun y S2 v2 H2 h2 g2 e2 r2 => ?_, px.next e1⟩
  refine ⟨σ, S2, _, E, g2, h2, fun z S3 v3 H3 h3 g3 e3 r3 => ?_, px.next (e1.trans e2)⟩
  have ry := e3.rep g2.st r2
  have go : ∀ {w : W} {v : V}, RepW X.K H3 w v → Q w S3 → QV v H3 := fun r q => p _ _ _ _ q g3 ((e1.trans e2).trans e3) r
  unfold dgetW at h3
  dsimp only at h3
  split at h3
  · rename_i f kvs e
    obtain ⟨vs, ez, rf⟩ := g3.st _ _ e
    split at h3
    · rename_i k hk
      refine ⟨valV vs k, .inl ⟨vs, k, ez.rd, keyW_rep ry hk, rfl⟩, ?_⟩
      cases ev : valD kvs k with
      | none => rw [rf.val.2 ev]; exact go r3 (by simpa [ev] using h3)
      | some w => obtain ⟨v, e2', rv⟩ := rf.val.1 w ev; rw [e2']; exact go rv (by simpa [ev] using h3)
    · exact h3.elim
  · rename_i f kvs e
    obtain ⟨vs, ez, rf⟩ := g3.st _ _ e
    split at h3
    · rename_i k hk
      obtain ⟨b, e4, e5⟩ := tkeyW_rep ry hk
      refine ⟨valV vs k, .inr ⟨vs, k, b, ez.rd, e4, e5, rfl⟩, ?_⟩
      cases ev : valD kvs k with
      | none => rw [rf.val.2 ev]; exact go r3 (by simpa [ev] using h3)
      | some w => obtain ⟨v, e2', rv⟩ := rf.val.1 w ev; rw [e2']; exact go rv (by simpa [ev] using h3)
    · exact h3.elim
  · exact h3.elim
end
section
variable {X : Cx} {Wx : WX} {σ : Envr} {S : Sto} {Z : L2.St} {H : Hp} {pos : Pos}
theorem ps_rseL {D : Addr} {x m : Str} {j : Nat} {p p2 p3 : Pos} (hc : X.calm = true) (tk : Takes X Wx) (F : ExFacts X D x) (hg : Gl X x) (hd : plainNm x = true) :
    PS X (.Raise (some (.Call (.Name x p) [.Constant (.str m) j p2] [] p3)) none pos) (liftS X.K Wx fun E σ S => E.ex σ D S) := by
  refine ps_weak (ps_raise hc tk (pmk_own PySem.F.excBase_ValueError F.xin F.glo F.kp (raises_own F.bs F.ty) hg (plain_dbg hd))) fun E Z H ⟨σ, S, E', g, h, k1, k2, k3, k4, k5⟩ => ?_
  exact k5 _ _ _ _ _ h g .refl
theorem Gd.unset {K : PySem.W.Frag} (g : Gd K σ S Z H) (i : Nat) : Gd K (σ.set i none) S (Z.set i none) H where
  len := by simp [g.len]
  sl := fun j u e => by
    rw [List.getElem?_set] at e ⊢
    by_cases h : i = j
    · rw [if_pos h] at e
      split at e <;> cases e
    · rw [if_neg h] at e ⊢
      exact g.sl j u e
  st := g.st
def tsuite (K : PySem.W.Frag) (G : Gs) (s : ISs) : Addr → Value → Option Addr → TS := fun a cls d D Z H => ∃ n, n ∈ G.ex ∧ cls = .ref (G.cl n) ∧ d = none ∧ liftS K noW (wpSs { G with hx := some (a, n) } s) D Z H
theorem ps_tryOL {G : Gs} {b s : ISs} {c : Nat} {x : Str} {body suite : List Stmt} {s0 : Stmt} {np p2 : Pos} (hs : X.stack = X.env :: X.outer) (hf : X.env.frame = some X.env.locals) (hn : Names X x (.ref (G.cl c))) (tk : Takes X Wx)
    (hm : ∀ n ∈ G.ex, PySem.W.exmOne X.K (.ref (G.cl n)) (.ref (G.cl c)) = some (subX n c))
    (hb : ∀ (W : WX) (pn : List (Addr × Obj)) (xe : Value → Shared → Prop), Takes (X.tr pn xe) W → PassesOwn (model X.prog X.w) X.A X.env xe → PSs (X.tr pn xe) body (liftS X.K W (wpSs G b)))
    (hsu : ∀ (a : Addr) (oe : Obj) (n : Nat) (pn : List (Addr × Obj)), n ∈ G.ex → Zc (.ref (G.cl n)) none oe → (∃ vs, oe.data = .fields vs) → PSs (X.suite a ((a, oe) :: pn)) (s0 :: suite) (liftS X.K noW (wpSs { G with hx := some (a, n) } s))) :
    PS X (.Try body [.ExceptHandler (some (.Name x np)) none (s0 :: suite) p2] [] [] pos) (liftS X.K Wx (wpS G (.tryO b c s))) := by
  refine ps_weak (ps_try_only (tb := fun W => liftS X.K W (wpSs G b)) (ts := tsuite X.K G s) hs hf hn tk hb fun a oe cls d pn hz hd => ⟨fun pins s Z H D I ⟨n, hn, e1, e2, q⟩ => ?_⟩) fun D Z H ⟨σ, S, E, g, h, k1, k2, k3, k4, k5⟩ => ?_
  · subst e1 e2
    exact (hsu a oe n pn hn hz hd).run pins s Z H D I q
  · refine ⟨σ, S, _, g, h, k1, k2, k3, k4, ?_⟩
    rintro σ' C S' Z' H' ⟨n, hn, rfl, q⟩ g' e'
    refine ⟨_, hm n hn, fun hb a ha => ?_, fun hb => ?_⟩
    · rcases q with ⟨_, q⟩ | ⟨hf, _⟩
      · refine ⟨n, hn, rfl, rfl, σ', S', _, g', q a (g'.st.free ha), fun σ2 S2 Z2 H2 q2 g2 e2 => k1 _ _ _ _ q2 g2 (e'.trans e2), fun w S2 v H2 q2 g2 e2 r2 => k2 _ _ _ _ q2 g2 (e'.trans e2) r2, fun σ2 S2 Z2 H2 q2 g2 e2 => k3 _ _ _ _ q2 g2 (e'.trans e2), fun σ2 S2 Z2 H2 q2 g2 e2 => k4 _ _ _ _ q2 g2 (e'.trans e2), fun _ _ _ _ _ q2 _ _ => q2.elim⟩
      · rw [hf] at hb; cases hb
    · rcases q with ⟨ht, _⟩ | ⟨_, q⟩
      · rw [ht] at hb; cases hb
      · exact k5 _ _ _ _ _ q g' e'
theorem ps_tryAL {G : Gs} {b s : ISs} {c i : Nat} {x n : Str} {body suite : List Stmt} {s0 : Stmt} {np p2 : Pos} (hs : X.stack = X.env :: X.outer) (hf : X.env.frame = some X.env.locals) (hN : X.N.Nodup) (hi : X.N[i]? = some n) (hln : X.env.kindOf n = some .local) (hn : Names X x (.ref (G.cl c))) (tk : Takes X Wx)
    (hm : ∀ n ∈ G.ex, PySem.W.exmOne X.K (.ref (G.cl n)) (.ref (G.cl c)) = some (subX n c))
    (hb : ∀ (W : WX) (pn : List (Addr × Obj)) (xe : Value → Shared → Prop), Takes (X.tr pn xe) W → PassesOwn (model X.prog X.w) X.A X.env xe → PSs (X.tr pn xe) body (liftS X.K W (wpSs G b)))
    (hsu : ∀ (a : Addr) (oe : Obj) (n : Nat) (pn : List (Addr × Obj)), n ∈ G.ex → Zc (.ref (G.cl n)) none oe → (∃ vs, oe.data = .fields vs) → PSs (X.suite a ((a, oe) :: pn)) (s0 :: suite) (liftS X.K noW (wpSs { G with hx := some (a, n) } s))) :
    PS X (.Try body [.ExceptHandler (some (.Name x np)) (some n) (s0 :: suite) p2] [] [] pos) (liftS X.K Wx (wpS G (.tryA b c i s))) := by
  refine ps_weak (ps_try_as (tb := fun W => liftS X.K W (wpSs G b)) (ts := tsuite X.K G s) hs hf hN hi hln hn tk hb fun a oe cls d pn hz hd => ⟨fun pins s Z H D I ⟨n, hn, e1, e2, q⟩ => ?_⟩) fun D Z H ⟨σ, S, E, g, h, k1, k2, k3, k4, k5⟩ => ?_
  · subst e1 e2
    exact (hsu a oe n pn hn hz hd).run pins s Z H D I q
  · refine ⟨σ, S, _, g, h, k1, k2, k3, k4, ?_⟩
    rintro σ' C S' Z' H' ⟨n, hn, rfl, q⟩ g' e'
    refine ⟨_, hm n hn, fun hb a ha => ?_, fun hb => ?_⟩
    · rcases q with ⟨_, q⟩ | ⟨hf, _⟩
      · refine ⟨n, hn, rfl, rfl, σ'.set i (some (.ref a)), S', _, g'.set (.ref a) i, q a (g'.st.free ha), fun σ2 S2 Z2 H2 q2 g2 e2 => k1 _ _ _ _ q2 (g2.unset i) (e'.trans e2), fun w S2 v H2 q2 g2 e2 r2 => k2 _ _ _ _ q2 g2 (e'.trans e2) r2, fun σ2 S2 Z2 H2 q2 g2 e2 => k3 _ _ _ _ q2 (g2.unset i) (e'.trans e2), fun σ2 S2 Z2 H2 q2 g2 e2 => k4 _ _ _ _ q2 (g2.unset i) (e'.trans e2), fun _ _ _ _ _ q2 _ _ => q2.elim⟩
      · rw [hf] at hb; cases hb
    · rcases q with ⟨ht, _⟩ | ⟨_, q⟩
      · rw [ht] at hb; cases hb
      · exact k5 _ _ _ _ _ q g' e'
end
section
variable {X : Cx} {Wx : WX} {K : PySem.W.Frag} {σ : Envr} {S S1 S' : Sto} {Z : L2.St} {H H1 H' : Hp}
variable {a b c : Expr} {pos : Pos} {ma mb mc : MTE}
theorem resL_dp {f : W → Option PyData} (hf : ∀ w v d, RepW K H w v → f w = some d → Dp K H v d) : ∀ {ws : List W} {vs : List V} {ds : List PyData}, RepWs K H ws vs → resL f ws = some ds → DpAll K H vs ds
  | _, _, _, .nil, h => by cases h; exact .nil
  | _, _, _, .cons r rs, h => by
    unfold resL at h
    split at h
    · rename_i d ds e1 e2
      cases h
      exact .cons (hf _ _ _ r e1) (resL_dp hf rs e2)
    · cases h
theorem resW_dp (g : StOk K S H) : ∀ (n : Nat) (w : W) (v : V) (d : PyData), RepW K H w v → resW S n w = some d → Dp K H v d
  | 0, _, _, _, _, h => by cases h
  | n + 1, w, v, d, r, h => by
    unfold resW at h
    cases r with
    | non => cases h; exact .non
    | bl b => cases h; exact .bl b
    | int i => cases h; exact .int i
    | str x => cases h; exact .str x
    | tup q r =>
      dsimp only at h
      rw [Option.map_eq_some_iff] at h
      obtain ⟨ds, e, rfl⟩ := h
      exact .tup (SqT.of q) (resL_dp (resW_dp g n) r e)
    | rol q r =>
      dsimp only at h
      rw [Option.map_eq_some_iff] at h
      obtain ⟨ds, e, rfl⟩ := h
      exact .lst q.sql (resL_dp (resW_dp g n) r e)
    | ref a =>
      dsimp only at h
      split at h
      · rename_i ws es
        rw [Option.map_eq_some_iff] at h
        obtain ⟨ds, e, rfl⟩ := h
        obtain ⟨vs, e1, r1⟩ := g _ _ es
        exact .lst (SqL.of e1) (resL_dp (resW_dp g n) r1 e)
      · cases h
    | ty => cases h
theorem snd_deq {o : CmpOp} {k : Bool} (hk : (match o with | .Eq => k | .NotEq => !k | _ => false) = true) (hu : X.A.units + 64 < cLine) (ha : PE X a (liftE X.K Wx ma)) (hb : PE X b (liftE X.K Wx mb)) :
    Snd X Wx (.Compare a [o] [b] pos) (fun σ S Q E => ma σ S (fun x S1 => mb σ S1 (fun y S2 => deqW x y S2 fun z => Q (.bl (z == k)) S2) E) E) := by
  cases o <;> first | (simp at hk; done) | skip
  · have hk' : k = true := hk
    subst hk'
    refine Snd.cmp (pe_cmpR (op_eqD hu) ha hb (nomark _)) (pt_cmpR (op_eqD hu) ha hb (nomark _)) (fun Z H QV ⟨σ, S, Q, E, g, h, p, px⟩ => ?_) (fun ⟨_, _, _, z⟩ => by cases z)
    refine ⟨σ, S, _, E, g, h, fun x S1 v1 H1 h1 g1 e1 r1 => ?_, px⟩
    refine ⟨σ, S1, _, E, g1, h1, fun y S2 v2 H2 h2 g2 e2 r2 => ?_, px.next e1⟩
    obtain ⟨d, d', q1, q2, s1, s2, hq⟩ := h2
    refine ⟨_, _, resW_dp g2.st 8 _ _ _ (e2.rep g1.st r1) q1, resW_dp g2.st 8 _ _ _ r2 q2, s1, s2, p _ _ _ _ ?_ g2 (e1.trans e2) (.bl _)⟩
    cases z : PyData.eqv d d' <;> (rw [z] at hq; exact hq)
  · have hk' : k = false := by simpa using hk
    subst hk'
    refine Snd.cmp (pe_cmpR (op_neD hu) ha hb (nomark _)) (pt_cmpR (op_neD hu) ha hb (nomark _)) (fun Z H QV ⟨σ, S, Q, E, g, h, p, px⟩ => ?_) (fun ⟨_, _, _, z⟩ => by cases z)
    refine ⟨σ, S, _, E, g, h, fun x S1 v1 H1 h1 g1 e1 r1 => ?_, px⟩
    refine ⟨σ, S1, _, E, g1, h1, fun y S2 v2 H2 h2 g2 e2 r2 => ?_, px.next e1⟩
    obtain ⟨d, d', q1, q2, s1, s2, hq⟩ := h2
    refine ⟨_, _, resW_dp g2.st 8 _ _ _ (e2.rep g1.st r1) q1, resW_dp g2.st 8 _ _ _ r2 q2, s1, s2, p _ _ _ _ ?_ g2 (e1.trans e2) (.bl _)⟩
    cases z : PyData.eqv d d' <;> (rw [z] at hq; exact hq)
end
section
variable {X : Cx} {Wx : WX} {K : PySem.W.Frag} {σ : Envr} {S S1 S' : Sto} {Z : L2.St} {H H1 H' : Hp}
variable {a b c r0 e : Expr} {pos ap : Pos} {ma mb mc : MTE} {es : List Expr}
theorem setDkE {Q : W → Sto → Prop} {QV : VK} {p : Addr} {w : W} {v : V} {kvs kvs0 : List (Key × W)} {vs : List (Key × V)} (pE : PostE K σ S Z H Q QV) (g : Gd K σ S Z H) (e : S p = some (.dk false kvs0)) (r : RepF K H kvs vs) (rw' : RepW K H w v) (h : Q w (put S p (.dk false kvs))) : QV v (upd H p (.dK vs)) := by
  have x : Ext S H (put S p (.dk false kvs)) (upd H p (.dK vs)) := Ext.write (by rw [e]; exact fun z => by cases z) (g.st.nfK e)
  exact pE _ _ _ _ h (g.next x (g.st.setDk e r)) x (x.rep g.st rw')
theorem snd_setd {d : Expr} {md : MTE} (hl : (ap.endLine == pos.line) = true) (h1 : notStar a = true) (h2 : notStar d = true) (hb0 : baseOk r0 = true) (ho : PE X r0 (liftE X.K Wx ma)) (ha : PE X a (liftE X.K Wx mb)) (hd : PE X d (liftE X.K Wx md)) :
    Snd X Wx (.Call (.Attribute r0 "setdefault" ap) [a, d] [] pos) (fun σ S Q E => ma σ S (fun x S1 => (∃ a kvs, x = .ref a ∧ S1 a = some (.dk false kvs)) ∧ mb σ S1 (fun y S2 => md σ S2 (fun z S3 => setdW x y z S3 Q) E) E) E) := by
  refine Snd.plain (pe_weak (pe_dsetd ho ha hd (m2_of hl h1 h2 hb0)) fun Z H QV ⟨σ, S, Q, E, g, h, p, px⟩ => ?_) (fun _ => rfl) (fun ⟨_, _, _, z⟩ => by cases z)
  refine ⟨σ, S, _, E, g, h, fun x S1 v1 H1 h1 g1 e1 r1 => ?_, px⟩
  obtain ⟨⟨ad, kvs0, rfl, e0⟩, h1⟩ := h1
  cases r1
  obtain ⟨vs0, hv0, _⟩ := g1.st _ _ e0
  refine ⟨ad, rfl, .inl ⟨vs0, .inl hv0⟩, σ, S1, _, E, g1, h1, fun y S2 v2 H2 h2 g2 e2 r2 => ?_, px.next e1⟩
  refine ⟨σ, S2, _, E, g2, h2, fun z S3 v3 H3 h3 g3 e3 r3 => ?_, px.next (e1.trans e2)⟩
  have ry := e3.rep g2.st r2
  unfold setdW at h3
  dsimp only at h3
  split at h3
  · rename_i kvs e
    obtain ⟨vs, hv, rf⟩ := g3.st _ _ e
    split at h3
    · rename_i k hk
      obtain ⟨hsz, h3⟩ := h3
      refine ⟨vs, k, hv, keyW_rep ry hk, by rw [← rf.length]; exact hsz, fun v ev => ?_, fun ev => ?_⟩
      · cases ew : valD kvs k with
        | none => rw [rf.val.2 ew] at ev; cases ev
        | some w =>
          obtain ⟨v', ev', rv⟩ := rf.val.1 w ew
          rw [ev'] at ev
          cases ev
          rw [ew] at h3
          exact p _ _ _ _ h3 g3 ((e1.trans e2).trans e3) rv
      · cases ew : valD kvs k with
        | some w =>
          obtain ⟨v', ev', rv⟩ := rf.val.1 w ew
          rw [ev'] at ev
          cases ev
        | none =>
          rw [ew] at h3
          exact setDkE (p.next ((e1.trans e2).trans e3)) g3 e (rf.put r3) r3 h3
    · exact h3.elim
  · exact h3.elim
theorem sndT_srtd {p : Pos} (hc : X.calm = true) (hg : Gl X "sorted") (hm : X.mg "sorted" = none) (h1 : notStar a = true) (ha : PE X a (liftE X.K Wx ma)) :
    SndT X Wx (.Call (.Name "sorted" p) [a] [] pos) (fun σ S Q E => ma σ S (fun x S1 => srtdW x S1 fun ws => Q ws S1) E) := by
  refine ⟨pe_weak ((callOk_b (call_sortedDI hc) hg hm boot_sorted (by decide) (by decide)) (by simp [noStars, h1]) (pa_cons ha pa_nil (star_cons h1))) fun Z H QV ⟨σ, S, Q, E, g, h, ps, px⟩ => ?_, fun _ => rfl, fun ⟨_, _, _, z⟩ => by cases z⟩
  refine ⟨σ, S, _, E, g, h, fun x S1 v H1 q g1 e1 r1 => ?_, px⟩
  unfold srtdW at q
  dsimp only at q
  split at q
  · rename_i ad
    cases r1
    split at q
    · rename_i kvs e
      obtain ⟨ks, hk, hl, q⟩ := q
      obtain ⟨vs, hv, rf⟩ := g1.st _ _ e
      refine ⟨ad, vs, ks, rfl, .inl hv, by rw [← rf.keys]; exact hk, hl, fun ys l pm so hl => ?_⟩
      exact post_lst (PostT.next ps e1) g1 hl (RepWs.ofInts ys) (q ys pm so)
    · exact q.elim
  · exact q.elim
theorem walk_rd {lo : Int} {n : Nat} : Walk K S H (rngdW lo n) (fun _ => True) (Itc lo (-1) n) := fun S2 H2 x2 g2 h2 => by
  refine ⟨fun i w hw => ?_, ?_⟩
  · unfold rngdW at hw
    rw [List.getElem?_map] at hw
    cases e : (List.range n)[i]? with
    | none => rw [e] at hw; cases hw
    | some j =>
      rw [e] at hw
      obtain ⟨h1, h2⟩ := List.getElem?_eq_some_iff.mp e
      rw [List.getElem_range] at h2
      subst h2
      cases hw
      rw [List.length_range] at h1
      refine ⟨h1, ?_⟩
      rintro x H3 ⟨rfl, rfl⟩
      exact ⟨g2, .refl, .int _⟩
  · unfold rngdW
    rw [List.length_map, List.length_range]
    exact Nat.le_refl _
theorem pi_rngdL {tg : Expr} {p : Pos} (hg : Gl X "range") (hm : X.mg "range" = none) (h1 : notStar a = true) (h2 : notStar b = true) (h3 : notStar c = true) (ha : PE X a (liftE X.K Wx ma)) (hb : PE X b (liftE X.K Wx mb)) (hc : PE X c (liftE X.K Wx mc)) :
    PI X tg (.Call (.Name "range" p) [a, b, c] [] pos) (liftI X.K Wx fun σ S Q E => ma σ S (fun x S1 => mb σ S1 (fun y S2 => mc σ S2 (fun z S3 => z = .int (-1) ∧ match x, y with
    | .int i, .int j => rngOk i ∧ rngOk j ∧ Q (rngdW i (i - j).toNat) (fun _ => True) S3
    | _, _ => False) E) E) E) := by
  refine pi_weak (pi_range3 hg hm (pa_cons ha (pa_cons hb (pa_cons hc pa_nil (star_cons h3)) (star_cons h2)) (star_cons h1)) (star_cons h1) (by rw [backTo_any, star_cons h2, star_cons h3]; rfl)) fun Z H R ⟨σ, S, Q, E, g, h, p, px⟩ => ?_
  refine ⟨σ, S, _, E, g, h, fun w S1 v H1 q g1 e1 r1 => ?_, px⟩
  refine ⟨σ, S1, _, E, g1, q, fun u S2 t H2 q2 g2 e2 r2 => ?_, px.next e1⟩
  refine ⟨σ, S2, _, E, g2, q2, fun z S3 t3 H3 q3 g3 e3 r3 => ?_, px.next (e1.trans e2)⟩
  obtain ⟨rfl, q3⟩ := q3
  cases w <;> first | exact q3.elim | skip
  cases u <;> first | exact q3.elim | skip
  cases r1; cases r2; cases r3
  rename_i i j
  exact ⟨i, j, -1, (i - j).toNat, rfl, RgC.neg q3.1.1 q3.1.2 q3.2.1.1 q3.2.1.2, p _ _ _ _ _ q3.2.2 g3 ((e1.trans e2).trans e3) walk_rd⟩
theorem pg_slice {o lo hi : Expr} {to tl th : TE} {p2 : Pos} (ho : PE X o to) (hl : PE X lo tl) (hh : PE X hi th) : PG X (.Subscript o (.Slice (some lo) (some hi) none p2) pos)
    (fun v σ H Q => to σ H fun x H1 => tl σ H1 fun y H2 => th σ H2 fun z H3 => ∃ l b i j xs ys, x = .ref l ∧ y = .int i ∧ z = .int j ∧ v = .ref b ∧ H3 l = some (.lst xs) ∧ H3 b = some (.lst ys) ∧ l ≠ b ∧ 0 ≤ i ∧ i ≤ j ∧ j ≤ xs.length ∧ xs.length + ys.length ≤ sizeLine ∧ Q σ (upd H3 l (.lst (xs.take i.toNat ++ ys ++ xs.drop j.toNat)))) := by
  refine ⟨fun pins s σ H v u Q I r h => ?_⟩
  have ha : assign (.Subscript o (.Slice (some lo) (some hi) none p2) pos) X.env u = (do
      let ov ← holding [u] (eval o X.env)
      let iv ← holding [u, ov] (eval (.Slice (some lo) (some hi) none p2) X.env)
      standAt pos
      holding [u, ov, iv] (setItem ov iv u)
      release [iv, u, ov] []) := rfl
  rw [ha]
  refine wpAny_bind (wpAny_holding (thn (ho.run pins s σ H _ I h) fun ov s1 ⟨x, H1, I1, r1, q1⟩ => ?_))
  refine wpAny_bind (wpAny_holding (wpAny_Slice ?_))
  rw [evalPart_some]
  refine thn (hl.run pins s1 σ H1 _ I1 q1) fun vl s2 ⟨y, H2, I2, r2, q2⟩ => ?_
  rw [evalPart_some]
  refine thn (hh.run pins s2 σ H2 _ I2 q2) fun vu s3 ⟨z, H3, I3, r3, q3⟩ => ?_
  rw [evalPart_none]
  refine wpAny_pure ?_
  obtain ⟨l, b, i, j, xs, ys, rfl, rfl, rfl, rfl, e1, e2, hne, i0, i1, i2, i3, q⟩ := q3
  cases r1
  cases r
  have I4 : Inv X pins σ H3 { s3 with heap := s3.heap.push { cls := .type "slice", data := .fields #[vl, vu, .none] } } := I3.kept (t' := s3.toks) fun b ob q => Heap.get?_push_of_some _ q
  refine wpAny_bind (wpAny_standAt (wpAny_bind (wpAny_holding (set_slice I4 e1 e2 hne (Heap.IsSliceOf.new ..) r2 r3 i0 i1 i2 i3 fun s5 I5 => ?_))))
  exact wpAny_release ⟨σ, _, I5, q⟩
theorem pg_slcL {lo hi : Expr} {p2 : Pos} (ho : PE X a (liftE X.K Wx ma)) (hl : PE X lo (liftE X.K Wx mb)) (hh : PE X hi (liftE X.K Wx mc)) : PG X (.Subscript a (.Slice (some lo) (some hi) none p2) pos) (liftG X.K [] fun w σ S Q E => ma σ S (fun x S1 => mb σ S1 (fun i S2 => mc σ S2 (fun j S3 => slsW x i j w S3 (Q σ)) E) E) E) := by
  refine pg_weak (pg_slice ho hl hh) fun v Z H Q ⟨w, σ, S, QM, g, r, h, p⟩ => ?_
  refine ⟨σ, S, _, noX, g, h, fun x S1 v1 H1 h1 g1 e1 r1 => ?_, PostX.no⟩
  refine ⟨σ, S1, _, noX, g1, h1, fun y S2 v2 H2 h2 g2 e2 r2 => ?_, PostX.no⟩
  refine ⟨σ, S2, _, noX, g2, h2, fun z S3 v3 H3 h3 g3 e3 r3 => ?_, PostX.no⟩
  unfold slsW at h3
  dsimp only at h3
  split at h3
  · rename_i ad i j pd
    cases r1; cases r2; cases r3; cases r
    obtain ⟨hne, h3⟩ := h3
    split at h3
    · rename_i xs ex
      split at h3
      · rename_i ys ey
        obtain ⟨i0, i1, i2, i3, h3⟩ := h3
        obtain ⟨vx, hx, rx⟩ := g3.st _ _ ex
        obtain ⟨vy, hy, ry⟩ := g3.st _ _ ey
        refine ⟨ad, pd, i, j, vx, vy, rfl, rfl, rfl, rfl, hx, hy, hne.symm, i0, i1, by rw [← rx.length]; exact i2, by rw [← rx.length, ← ry.length]; exact i3, ?_⟩
        have x : Ext S3 H3 (put S3 ad (.lst (xs.take i.toNat ++ ys ++ xs.drop j.toNat))) (upd H3 ad (.lst (vx.take i.toNat ++ vy ++ vx.drop j.toNat))) := Ext.write (by rw [ex]; exact fun z => by cases z) (g3.st.nfL ex)
        exact p _ _ _ _ h3 (g3.next x (g3.st.setLst ex (((rx.take _).append ry).append (rx.drop _)))) (((e1.trans e2).trans e3).trans x) ⟨rfl, fun _ _ => rfl⟩
      · exact h3.elim
    · exact h3.elim
  · exact h3.elim
end
section
variable {X : Cx} {Wx : WX} {K : PySem.W.Frag} {σ : Envr} {S S1 S' : Sto} {Z : L2.St} {H H1 H' : Hp}
def IsDic : HO → Prop
  | .dK _ => True
  | .dT _ => True
  | _ => False
theorem Stay.dic {a : Addr} {u o : HO} (hu : H a = some u) (d : IsDic u) : Stay K H (upd H a o) := by
  refine ⟨fun b xs q => ?_, fun b xs q => ?_⟩
  · have : b ≠ a := fun z => by rw [z, hu] at q; cases q; exact d
    rw [upd_ne this]; exact q
  · rcases q with ⟨o', q⟩ | q
    · have : b ≠ a := fun z => by rw [z, hu] at q; cases q; exact d
      exact .inl ⟨o', by rw [upd_ne this]; exact q⟩
    · exact .inr q
theorem Stay.fz {a : Addr} {u o : HO} {od : Obj} (hu : H a = some (.frz od u)) (d : IsDic u) : Stay K H (upd H a o) := by
  refine ⟨fun b xs q => ?_, fun b xs q => ?_⟩
  · have : b ≠ a := fun z => by rw [z, hu] at q; cases q
    rw [upd_ne this]; exact q
  · rcases q with ⟨o', q⟩ | q
    · have : b ≠ a := fun z => by rw [z, hu] at q; cases q; exact d
      exact .inl ⟨o', by rw [upd_ne this]; exact q⟩
    · exact .inr q
theorem Stay.trans {H2 : Hp} (h : Stay K H H1) (k : Stay K H1 H2) : Stay K H H2 := ⟨fun a vs e => k.1 a vs (h.1 a vs e), fun a vs e => k.2 a vs (h.2 a vs e)⟩
theorem del_same {a : Addr} : del S a a = none := if_pos rfl
theorem del_ne {a b : Addr} (h : b ≠ a) : del S a b = S b := if_neg h
theorem StOk.lock {a : Addr} {u o : HO} (g : StOk K S H) (hu : H a = some u) (d : IsDic u) : StOk K (del S a) (upd H a o) := fun b m e => by
  have n : b ≠ a := fun z => by rw [z, del_same] at e; cases e
  rw [del_ne n] at e
  exact (g b m e).stay (Stay.dic hu d) fun v q => by rw [upd_ne n]; exact q
theorem Gd.lock {a : Addr} {u o : HO} (g : Gd K σ S Z H) (hu : H a = some u) (d : IsDic u) : Gd K σ (del S a) Z (upd H a o) :=
  ⟨g.len, fun i w e => (g.sl i w e).imp fun v r => ⟨r.1, r.2.mono (Stay.dic hu d)⟩, g.st.lock hu d⟩
theorem StOk.unlock {a : Addr} {u : HO} {od : Obj} {U : MO} (g : StOk K S H) (hu : H a = some (.frz od u)) (d : IsDic u) (r : RepO K (upd H a u) U a) : StOk K (put S a U) (upd H a u) := fun b m e => by
  by_cases n : b = a
  · subst n; rw [put_same] at e; cases e; exact r
  · rw [put_ne n] at e
    exact (g b m e).stay (Stay.fz hu d) fun v q => by rw [upd_ne n]; exact q
theorem Gd.unlock {a : Addr} {u : HO} {od : Obj} {U : MO} (g : Gd K σ S Z H) (hu : H a = some (.frz od u)) (d : IsDic u) (r : RepO K (upd H a u) U a) : Gd K σ (put S a U) Z (upd H a u) :=
  ⟨g.len, fun i w e => (g.sl i w e).imp fun v r => ⟨r.1, r.2.mono (Stay.fz hu d)⟩, g.st.unlock hu d r⟩
theorem Ext.locked {a : Addr} {u o u' : HO} {U0 U : MO} (hS : S a = some U0) (hu : H a = some u) (d : IsDic u) (e : Ext (del S a) (upd H a o) S' H') : Ext S H (put S' a U) (upd H' a u') := by
  refine ⟨fun b v q n => ?_, fun b q => ?_, fun b q => ?_, fun b v n q => ?_⟩
  · have hb : b ≠ a := fun z => by rw [z, hS] at n; cases n
    rw [upd_ne hb]
    exact e.fr b v (by rw [upd_ne hb]; exact q) (by rw [del_ne hb]; exact n)
  · by_cases hb : b = a
    · left; rw [hb, hS]; exact Option.some_ne_none _
    · rw [put_ne hb] at q
      rcases e.dm b q with z | z
      · rw [del_ne hb] at z; exact .inl z
      · rw [upd_ne hb] at z; exact .inr z
  · exact upd_th (e.th b (upd_th q))
  · have hb : b ≠ a := fun z => by rw [z, hu] at q; cases q; exact d
    rw [upd_ne hb]
    exact e.fz b v n (by rw [upd_ne hb]; exact q)
theorem Ext.lockFr {a : Addr} {o : HO} (e : Ext (del S a) (upd H a o) S' H') : H' a = some o ∧ S' a = none := by
  refine ⟨e.fr a o upd_same del_same, ?_⟩
  cases q : S' a with
  | none => rfl
  | some m =>
    rcases e.dm a (by rw [q]; exact Option.some_ne_none _) with z | z
    · exact (z del_same).elim
    · rw [upd_same] at z; cases z
def KWalk (K : PySem.W.Frag) (a : Addr) (od : Obj) (u : HO) (xs : List W) (J : It) : Prop := ∀ H', H' a = some (.frz od u) → (∀ i w, xs[i]? = some w → J.go i H' ∧ ∀ x H3, J.yld i H' x H3 → H3 = H' ∧ RepW K H' w x) ∧ J.stop xs.length H'
theorem repWs_kW (ks : List Key) : RepWs K H (ks.map kW) (ks.map kV) := by
  induction ks with
  | nil => exact .nil
  | cons k r ih => exact .cons (relV_kW k) ih
theorem keys_at {κ : Type} {kvs : List (κ × W)} {vs : List (κ × V)} {f : κ → W} {i : Nat} {w : W} (h : RepF K H kvs vs) (e : (kvs.map fun kv => f kv.1)[i]? = some w) : ∃ k v, vs[i]? = some (k, v) ∧ w = f k := by
  have hk := h.keys
  rw [List.getElem?_map] at e
  cases q : kvs[i]? with
  | none => rw [q] at e; cases e
  | some p =>
    rw [q] at e
    cases e
    have h2 : (vs.map (·.1))[i]? = some p.1 := by rw [← hk, List.getElem?_map, q]; rfl
    rw [List.getElem?_map] at h2
    cases q2 : vs[i]? with
    | none => rw [q2] at h2; cases h2
    | some p2 =>
      rw [q2] at h2
      have h3 : p2.1 = p.1 := Option.some.inj h2
      exact ⟨p2.1, p2.2, rfl, by rw [h3]⟩
theorem kwalk_k {a : Addr} {od : Obj} {kvs : List (Key × W)} {vs : List (Key × V)} (h : RepF K H kvs vs) : KWalk K a od (.dK vs) (kvs.map fun kv => kW kv.1) (Itk a od vs) := fun H' e => by
  refine ⟨fun i w hw => ?_, e, ?_⟩
  · obtain ⟨k, v, h1, rfl⟩ := keys_at h hw
    refine ⟨⟨e, (List.getElem?_eq_some_iff.mp h1).1⟩, ?_⟩
    rintro x H3 ⟨rfl, k', v', h2, rfl⟩
    rw [h1] at h2
    cases h2
    exact ⟨rfl, relV_kW k⟩
  · rw [List.length_map, h.length]; exact Nat.le_refl _
theorem kwalk_t {a : Addr} {od : Obj} {kvs : List (List Key × W)} {vs : List (List Key × V)} (h : RepF K H kvs vs) : KWalk K a od (.dT vs) (kvs.map fun kv => .tup (kv.1.map kW)) (Itkt a od vs) := fun H' e => by
  refine ⟨fun i w hw => ?_, e, ?_⟩
  · obtain ⟨k, v, h1, rfl⟩ := keys_at (f := fun k => W.tup (k.map kW)) h hw
    refine ⟨⟨e, (List.getElem?_eq_some_iff.mp h1).1⟩, ?_⟩
    rintro x H3 ⟨rfl, k', v', q, h2, rfl, hq⟩
    rw [h1] at h2
    cases h2
    exact ⟨rfl, .tup hq (repWs_kW k)⟩
  · rw [List.length_map, h.length]; exact Nat.le_refl _
end
section
variable {X : Cx} {Wx : WX}
variable {tg : Expr} {pos : Pos} {body : List Stmt} {sl : List Nat}
variable {mg : W → Envr → Sto → (Envr → Sto → Prop) → XQ → Prop} {ms : MEnds → Envr → Sto → Prop}
theorem ford_one {σ : Envr} {S : Sto} {Z : L2.St} {H : Hp} {a : Addr} {u : HO} {od : Obj} {U : MO} {xs : List W} {J : It} {E : MEnds} {D : Ends} {I : Nat → Envr → Sto → Prop} (g : Gd X.K σ S Z H) (hS : S a = some U) (hu : H a = some u) (d : IsDic u) (hR : ∀ H'', Stay X.K H H'' → H'' a = some u → RepO X.K H'' U a) (hw : KWalk X.K a od u xs J)
    {H1 : Hp} (g1 : Gd X.K σ (del S a) Z H1) (e1 : Ext (del S a) (upd H a (.frz od u)) (del S a) H1) (h0 : ∃ S2, Sub S2 (del S a) ∧ I 0 σ S2)
    (hstep : ∀ k x σ' S', xs[k]? = some x → I k σ' S' → mg x σ' S' (fun σ2 S2 => ms { nx := I (k + 1), ct := I (k + 1), bk := fun σ3 S3 => S3 a = none → E.nx σ3 (put S3 a U), rt := fun w S3 => S3 a = none → E.rt w (put S3 a U), ex := fun _ _ _ => False } σ2 S2) noX)
    (hend : ∀ σ' S', I xs.length σ' S' → S' a = none → E.nx σ' (put S' a U))
    (pnx : ∀ σ' S' Z' H', E.nx σ' S' → Gd X.K σ' S' Z' H' → Ext S H S' H' → D.nx Z' H')
    (prt : ∀ w S' v H', E.rt w S' → StOk X.K S' H' → Ext S H S' H' → RepW X.K H' w v → D.rt v H') :
    ∃ W : Nat → Nat → L2.St → Hp → Prop, (∃ m, W 0 m Z H1) ∧ ∀ i m Z' H', W i m Z' H' →
      (J.stop i H' ∧ (H' a = some (.frz od u) ∧ D.nx Z' (upd H' a u))) ∨ (J.go i H' ∧ ∃ N : L2.St → Hp → Prop, (∀ Z'' H'', N Z'' H'' → ∃ m', m' < m ∧ W (i + 1) m' Z'' H'') ∧ ∀ x H3, J.yld i H' x H3 → liftG X.K sl mg x Z' H3 fun Z2 H2 => liftS X.K Wx ms ⟨N, fun v H5 => H5 a = some (.frz od u) ∧ D.rt v (upd H5 a u), fun Z5 H5 => H5 a = some (.frz od u) ∧ D.nx Z5 (upd H5 a u), N⟩ Z2 H2) := by
  have gl : Gd X.K σ (del S a) Z (upd H a (.frz od u)) := g.lock hu d
  have un : ∀ {S' : Sto} {H' : Hp}, Ext (del S a) (upd H a (.frz od u)) S' H' → H' a = some (.frz od u) ∧ S' a = none ∧ Ext S H (put S' a U) (upd H' a u) ∧ RepO X.K (upd H' a u) U a := fun {S' H'} e => by
    obtain ⟨h1, h2⟩ := e.lockFr
    exact ⟨h1, h2, e.locked hS hu d, hR _ (((Stay.dic hu d).trans (e.stay gl.st)).trans (Stay.fz h1 d)) upd_same⟩
  obtain ⟨S2, sub, h0⟩ := h0
  refine ⟨fun i m Z' H' => m = xs.length - i ∧ i ≤ xs.length ∧ ∃ σ' S', Gd X.K σ' S' Z' H' ∧ Ext (del S a) (upd H a (.frz od u)) S' H' ∧ I i σ' S', ⟨xs.length, by simp, Nat.zero_le _, σ, S2, ⟨g1.len, g1.sl, g1.st.sub sub⟩, e1.trans (Ext.sub sub), h0⟩, ?_⟩
  rintro i m Z' H' ⟨rfl, hi', σ', S', g', x1, hI⟩
  obtain ⟨hfz, hn, hx2, hr⟩ := un x1
  by_cases hlt : i < xs.length
  · have hx : xs[i]? = some xs[i] := by simp [hlt]
    obtain ⟨hgo, hy⟩ := (hw H' hfz).1 i _ hx
    refine .inr ⟨hgo, fun Z'' H'' => ∃ σ'' S'', Gd X.K σ'' S'' Z'' H'' ∧ Ext (del S a) (upd H a (.frz od u)) S'' H'' ∧ I (i + 1) σ'' S'', fun Z'' H'' n => ⟨xs.length - (i + 1), by omega, rfl, hlt, n⟩, fun v H3 hyl => ?_⟩
    obtain ⟨rfl, r3⟩ := hy v H3 hyl
    refine ⟨_, σ', S', _, g', r3, hstep i _ σ' S' hx hI, fun σ4 S4 Z4 H4 hb g4 e4 _ => ?_⟩
    have e04 := x1.trans e4
    refine ⟨σ4, S4, _, g4, hb, fun σ5 S5 Z5 H5 q g5 e5 => ⟨σ5, S5, g5, e04.trans e5, q⟩, fun w S5 v5 H5 q g5 e5 r5 => ?_, fun σ5 S5 Z5 H5 q g5 e5 => ?_, fun σ5 S5 Z5 H5 q g5 e5 => ⟨σ5, S5, g5, e04.trans e5, q⟩, fun _ _ _ _ _ q => q.elim⟩
    · obtain ⟨f1, f2, f3, f4⟩ := un (e04.trans e5)
      exact ⟨f1, prt w _ v5 _ (q f2) (g5.unlock f1 d f4) f3 (r5.mono (Stay.fz f1 d))⟩
    · obtain ⟨f1, f2, f3, f4⟩ := un (e04.trans e5)
      exact ⟨f1, pnx σ5 _ Z5 _ (q f2) (g5.unlock f1 d f4) f3⟩
  · have hi2 : i = xs.length := by omega
    subst hi2
    exact .inl ⟨(hw H' hfz).2, hfz, pnx _ _ _ _ (hend σ' S' hI hn) (g'.unlock hfz d hr) hx2⟩
theorem ps_fordL {y : Str} {py : Pos} {i : Nat} (hp : PassesOwn (model X.prog X.w) X.A X.env X.xe) (hc : X.calm = true) (hy : PE X (.Name y py) (liftE X.K Wx fun σ S Q _ => match getv σ i with
    | some w => Q w S
    | none => False)) (hg : PG X tg (liftG X.K sl mg)) (hb : PSs X body (liftS X.K Wx ms)) :
    PS X (.For tg (.Name y py) body [] pos) (liftS X.K Wx fun D σ S => match getv σ i with
    | some (.ref a) => (match S a with
      | some U => (match keysOf U with
        | some xs => ∃ I : Nat → Envr → Sto → Prop, (∃ S2, Sub S2 (del S a) ∧ I 0 σ S2) ∧
          (∀ k x σ' S', xs[k]? = some x → I k σ' S' → mg x σ' S' (fun σ2 S2 => ms { nx := I (k + 1), ct := I (k + 1), bk := fun σ3 S3 => S3 a = none → D.nx σ3 (put S3 a U), rt := fun w S3 => S3 a = none → D.rt w (put S3 a U), ex := fun _ _ _ => False } σ2 S2) noX) ∧
          ∀ σ' S', I xs.length σ' S' → S' a = none → D.nx σ' (put S' a U)
        | none => False)
      | none => False)
    | _ => False) := by
  refine ps_weak (ps_lock (ps_for hp hc (pi_keys hy) hg hb (notSet_of rfl))) fun D Z H ⟨σ, S, E, g, hm, pnx, prt, pbk, pct, pex⟩ => ?_
  dsimp only at hm
  split at hm
  · rename_i a ha
    split at hm
    · rename_i U hU
      split at hm
      · rename_i xs hxs
        obtain ⟨I, h0, hstep, hend⟩ := hm
        have rU := g.st a U hU
        cases U with
        | lst _ => cases hxs
        | ins _ _ => cases hxs
        | dk fz kvs =>
          cases fz with
          | true => cases hxs
          | false =>
            cases hxs
            obtain ⟨vs, hv, rf⟩ := rU
            refine ⟨a, .dK vs, hv, trivial, fun od => ?_⟩
            refine ⟨σ, del S a, fun w S' => w = .ref a ∧ S' = del S a, noX, g.lock hv trivial, by dsimp only; rw [ha]; exact ⟨rfl, rfl⟩, fun w S' v H' q g' e' r' => ?_, PostX.no⟩
            obtain ⟨rfl, rfl⟩ := q
            cases r'
            refine ⟨a, od, rfl, .inl ⟨vs, e'.lockFr.1, ?_⟩⟩
            exact ford_one (E := E) (D := D) g hU hv trivial (fun H'' s q => ⟨vs, q, rf.mono s⟩) (kwalk_k rf) g' e' h0 hstep hend pnx prt
        | dt fz kvs =>
          cases fz with
          | true => cases hxs
          | false =>
            cases hxs
            obtain ⟨vs, hv, rf⟩ := rU
            refine ⟨a, .dT vs, hv, trivial, fun od => ?_⟩
            refine ⟨σ, del S a, fun w S' => w = .ref a ∧ S' = del S a, noX, g.lock hv trivial, by dsimp only; rw [ha]; exact ⟨rfl, rfl⟩, fun w S' v H' q g' e' r' => ?_, PostX.no⟩
            obtain ⟨rfl, rfl⟩ := q
            cases r'
            refine ⟨a, od, rfl, .inr ⟨vs, e'.lockFr.1, ?_⟩⟩
            exact ford_one (E := E) (D := D) g hU hv trivial (fun H'' s q => ⟨vs, q, rf.mono s⟩) (kwalk_t rf) g' e' h0 hstep hend pnx prt
      · exact hm.elim
    · exact hm.elim
  · exact hm.elim
end
section
variable {X : Cx} {Wx : WX} {K : PySem.W.Frag} {σ : Envr} {S S1 S' : Sto} {Z : L2.St} {H H1 H' : Hp}
variable {a : Expr} {pos : Pos} {ma : MTE} {mes : Envr → Sto → (List W → Sto → Prop) → XQ → Prop}
def PsOk (X : Cx) (Wx : WX) (ks : List Key) (trs : List (TE × TE)) (m : Envr → Sto → (List W → Sto → Prop) → XQ → Prop) : Prop := ∀ Z H (QP : List (V × V) → Hp → Prop) σ S Q E, Gd X.K σ S Z H → m σ S Q E →
  (∀ ws S1 vs H1, Q ws S1 → Gd X.K σ S1 Z H1 → Ext S H S1 H1 → RepWs X.K H1 ws vs → QP ((ks.zip vs).map fun kv => (kV kv.1, kv.2)) H1) → PostX X.K Wx σ S Z H E → tPairs trs Z H QP
theorem psOk_nil : PsOk X Wx [] [] (fun _ S Q _ => Q [] S) := fun Z H QP σ S Q E g h p px => p _ _ _ _ h g .refl .nil
theorem psOk_cons {k : Key} {ks : List Key} {trs : List (TE × TE)} (hr : PsOk X Wx ks trs mes) :
    PsOk X Wx (k :: ks) ((tC (kV k), liftE X.K Wx ma) :: trs) (fun σ S Q E => ma σ S (fun w S1 => mes σ S1 (fun ws S2 => Q (w :: ws) S2) E) E) := fun Z H QP σ S Q E g h p px => by
  show liftE X.K Wx ma Z H _
  refine ⟨σ, S, _, E, g, h, fun w S1 v H1 h1 g1 e1 r1 => ?_, px⟩
  exact hr Z H1 _ σ S1 _ E g1 h1 (fun ws S2 vs H2 q g2 e2 r2 => p _ _ (v :: vs) _ q g2 (e1.trans e2) (.cons (e2.rep g1.st r1) r2)) (px.next e1)
theorem RepF.mk {ks : List Key} : ∀ {ws : List W} {vs : List V} {acc : List (Key × W)} {acc' : List (Key × V)}, RepWs K H ws vs → RepF K H acc acc' → RepF K H ((ks.zip ws).foldl (fun acc kv => putD acc kv.1 kv.2) acc) ((ks.zip vs).foldl (fun acc kv => putK acc kv.1 kv.2) acc') := by
  induction ks with
  | nil => intro ws vs acc acc' _ h; exact h
  | cons k r ih =>
    intro ws vs acc acc' hr h
    cases hr with
    | nil => exact h
    | cons r1 rr => exact ih rr (h.put r1)
theorem snd_ddsp {ks : List Key} {keys : List (Option Expr)} {vals : List Expr} {trs : List (TE × TE)} (h : PPs X pos keys vals trs) (ho : PsOk X Wx ks trs mes) (hall : keys.all (·.isSome) = true) (hl : keys.length = vals.length) (h0 : keys ≠ []) (h15 : keys.length ≤ 15) (hks : ks.length = keys.length) :
    Snd X Wx (.Dict keys vals pos) (fun σ S Q E => mes σ S (fun ws S1 => ks.length = ws.length ∧ ∀ p, S1 p = none → Q (.ref p) (put S1 p (.dk false (mkD ks ws)))) E) := by
  refine Snd.plain (pe_weak (pe_disp h hall hl h0 h15) fun Z H QV ⟨σ, S, Q, E, g, hm, p, px⟩ => ?_) (fun _ => rfl) (fun ⟨_, _, _, z⟩ => by cases z)
  intro q hq
  have xf : Ext S H S (upd H q (.dK [])) := Ext.fresh hq
  have g0 : Gd X.K σ S Z (upd H q (.dK [])) := g.next xf (g.st.fresh hq)
  have hSq : S q = none := g.st.free hq
  refine ho Z _ _ σ S _ E g0 hm (fun ws S1 vs H1 hh g1 e1 r1 => ?_) (px.next xf)
  obtain ⟨hlen, hh⟩ := hh
  obtain ⟨k1, k2⟩ := e1.keepNone hSq upd_same
  refine ⟨k2, ks.zip vs, rfl, ?_, ?_⟩
  · rw [List.length_zip]; omega
  · have x : Ext S H (put S1 q (.dk false (mkD ks ws))) (upd H1 q (.dK (mergeK [] (ks.zip vs)))) := by
      refine ⟨fun b v e n => ?_, fun b n => ?_, fun b n => ?_, fun b v n e => ?_⟩
      · have hb : b ≠ q := fun z => by rw [z, hq] at e; cases e
        rw [upd_ne hb]
        exact e1.fr b v (by rw [upd_ne hb]; exact e) n
      · by_cases hb : b = q
        · right; rw [hb]; exact hq
        · rw [put_ne hb] at n
          rcases e1.dm b n with z | z
          · exact .inl z
          · rw [upd_ne hb] at z; exact .inr z
      · exact upd_th (e1.th b (upd_th n))
      · have hb : b ≠ q := fun z => by rw [z, hq] at e; cases e
        rw [upd_ne hb]
        exact e1.fz b v n (by rw [upd_ne hb]; exact e)
    have sd : Stay X.K H1 (upd H1 q (.dK (mergeK [] (ks.zip vs)))) := Stay.dic k2 trivial
    have g2 : Gd X.K σ (put S1 q (.dk false (mkD ks ws))) Z (upd H1 q (.dK (mergeK [] (ks.zip vs)))) := by
      refine ⟨g1.len, fun i w e => (g1.sl i w e).imp fun v r => ⟨r.1, r.2.mono sd⟩, fun b m e => ?_⟩
      by_cases hb : b = q
      · subst hb
        rw [put_same] at e
        cases e
        exact ⟨_, upd_same, RepF.mk (r1.mono sd) trivial⟩
      · rw [put_ne hb] at e
        exact (g1.st b m e).stay sd fun v z => by rw [upd_ne hb]; exact z
    exact p _ _ _ _ (hh q k1) g2 x (.ref q)
theorem keysB_len : ∀ {ks : List Key} {keys : List (Option Expr)}, keysB ks keys = true → ks.length = keys.length ∧ keys.all (·.isSome) = true
  | [], [], _ => ⟨rfl, rfl⟩
  | .inl i :: r, some (.Constant (.int j) _ _) :: t, h => by
    simp only [keysB, Bool.and_eq_true] at h
    obtain ⟨a, b⟩ := keysB_len h.2
    exact ⟨by rw [List.length_cons, List.length_cons, a], by rw [List.all_cons, b]; rfl⟩
  | .inr x :: r, some (.Constant (.str y) _ _) :: t, h => by
    simp only [keysB, Bool.and_eq_true] at h
    obtain ⟨a, b⟩ := keysB_len h.2
    exact ⟨by rw [List.length_cons, List.length_cons, a], by rw [List.all_cons, b]; rfl⟩
end
section
variable {X : Cx}
def rSortD (K : PySem.W.Frag) : List V → Hp → VK → Prop := fun vs H Q => ∃ (a : Addr) (ps : List (V × PyData)), vs = [V.ref a] ∧ SqL K H a (ps.map (·.1)) ∧ (∀ p ∈ ps, Dp K H p.1 p.2) ∧ PySem.W.AllAlike (ps.map (·.2)) ∧ PySem.W.Sortable (ps.map (·.2)) ∧ (∀ p ∈ ps, p.2.depth ≤ 40) ∧
  ∀ p : Addr, H p = none → Q (.ref p) (upd H p (.lst ((ps.mergeSort (PySem.W.dataLe false (·.2))).map (·.1))))
theorem each_vals {β : Type} {f : β → V} : ∀ {ps : List β} {us : List Value}, Vals (ps.map f) us → PySem.W.EachIs (fun u p => RelV (f p) u) us ps
  | [], _, .nil => .nil
  | _ :: _, _, .cons r t => .cons r (each_vals t)
theorem vals_each {β : Type} {f : β → V} : ∀ {ps : List β} {us : List Value}, PySem.W.EachIs (fun u p => RelV (f p) u) us ps → Vals (ps.map f) us
  | _, _, .nil => .nil
  | _, _, .cons r t => .cons r (vals_each t)
theorem each_mem2 {β : Type} {R R' : Value → β → Prop} : ∀ {us : List Value} {ps : List β}, PySem.W.EachIs R us ps → (∀ u p, p ∈ ps → R u p → R' u p) → PySem.W.EachIs R' us ps
  | _, _, .nil, _ => .nil
  | _, _, .cons r t, h => .cons (h _ _ List.mem_cons_self r) (each_mem2 t fun u p m => h u p (List.mem_cons_of_mem _ m))
theorem cr_sortD (hu : X.A.units + 64 < cLine) : CallR X (.builtin "sorted") (rSortD X.K) := by
  intro pins s σ H vs us Q I r h
  obtain ⟨a, ps, rfl, hs, hd, al, so, dp, q⟩ := h
  obtain ⟨its, rv, hl, hz⟩ := I.list hs
  rw [Vals.ref1 r]
  have ev := each_vals rv
  have len : its.length = ps.length := by have := rv.length; rw [List.length_map] at this; exact this.symm
  refine PySem.W.sorted_data (vs := its) (bs := ps) (enc := (·.2)) (R := fun u p => RelV p.1 u) hl.isList ev (each_mem2 ev fun u p m r => Dp.reads I _ _ _ (hd p m) r) al so (by rw [List.length_map] at hz; exact hz) (fun p m => by have := dp p m; omega) fun out ho eo => ?_
  have hn := sortedAll_at s.heap its out.toArray
  obtain ⟨n, hn⟩ := hn
  have kp : ∀ b o, s.heap.get? b = some o → (sortedAll s.heap its out.toArray).get? b = some o := fun b o e => sortedAll_old e
  have hd2 : s.heap.objs.size ≤ s.heap.objs.size + 1 := Nat.le_succ _
  have hv := vals_each (f := fun p : V × PyData => p.1) eo
  refine ⟨.ref (s.heap.objs.size + 1), upd H (s.heap.objs.size + 1) (.lst ((ps.mergeSort (PySem.W.dataLe false (·.2))).map (·.1))), I.laid (t' := s.toks) kp hd2 ⟨?_, out, n, hv, hn⟩, rfl, q _ (I.hok.fresh hd2)⟩
  rw [List.length_map, List.length_mergeSort]; rw [List.length_map] at hz; exact hz
end
theorem resL_depth {f : W → Option PyData} {n : Nat} (hf : ∀ w d, f w = some d → d.depth ≤ n) : ∀ {ws : List W} {ds : List PyData}, resL f ws = some ds → PyData.depthAll ds ≤ n
  | [], _, h => by cases h; unfold PyData.depthAll; exact Nat.zero_le _
  | w :: ws, _, h => by
    unfold resL at h
    split at h
    · rename_i d ds e1 e2
      cases h
      unfold PyData.depthAll
      exact Nat.max_le.mpr ⟨hf _ _ e1, resL_depth hf e2⟩
    · cases h
theorem resW_depth {S : Sto} : ∀ (n : Nat) (w : W) (d : PyData), resW S n w = some d → d.depth ≤ n
  | 0, _, _, h => by cases h
  | n + 1, w, d, h => by
    unfold resW at h
    cases w with
    | non => cases h; unfold PyData.depth; exact Nat.zero_le _
    | bl b => cases h; unfold PyData.depth; exact Nat.zero_le _
    | int i => cases h; unfold PyData.depth; exact Nat.zero_le _
    | str x => cases h; unfold PyData.depth; exact Nat.zero_le _
    | tup ws =>
      dsimp only at h
      rw [Option.map_eq_some_iff] at h
      obtain ⟨ds, e, rfl⟩ := h
      unfold PyData.depth
      exact Nat.succ_le_succ (resL_depth (resW_depth n) e)
    | rol ws =>
      dsimp only at h
      rw [Option.map_eq_some_iff] at h
      obtain ⟨ds, e, rfl⟩ := h
      unfold PyData.depth
      exact Nat.succ_le_succ (resL_depth (resW_depth n) e)
    | ref a =>
      dsimp only at h
      split at h
      · rename_i ws es
        rw [Option.map_eq_some_iff] at h
        obtain ⟨ds, e, rfl⟩ := h
        unfold PyData.depth
        exact Nat.succ_le_succ (resL_depth (resW_depth n) e)
      · cases h
    | ty => cases h
theorem rep_zip {K : PySem.W.Frag} {H : Hp} {f : W → Option PyData} (hf : ∀ w v d, RepW K H w v → f w = some d → Dp K H v d) {n : Nat} (hn : ∀ w d, f w = some d → d.depth ≤ n) : ∀ {ws : List W} {vs : List V} {ds : List PyData}, RepWs K H ws vs → resL f ws = some ds →
    ∃ ps : List ((W × PyData) × V), ws.zip ds = ps.map (·.1) ∧ vs = ps.map (·.2) ∧ ds = ps.map (·.1.2) ∧ ∀ p ∈ ps, RepW K H p.1.1 p.2 ∧ Dp K H p.2 p.1.2 ∧ p.1.2.depth ≤ n
  | _, _, _, .nil, h => by cases h; exact ⟨[], rfl, rfl, rfl, fun p h => by cases h⟩
  | _, _, _, .cons (w := w) (v := v) r rs, h => by
    unfold resL at h
    split at h
    · rename_i d ds e1 e2
      cases h
      obtain ⟨ps, h1, h2, h3, h4⟩ := rep_zip hf hn rs e2
      refine ⟨((w, d), v) :: ps, by rw [List.zip_cons_cons, h1]; rfl, by rw [h2]; rfl, by rw [h3]; rfl, fun p m => ?_⟩
      rcases List.mem_cons.mp m with rfl | m
      · exact ⟨r, hf _ _ _ r e1, hn _ _ e1⟩
      · exact h4 p m
    · cases h
theorem reps_of {K : PySem.W.Frag} {H : Hp} {β : Type} {f : β → W} {g : β → V} : ∀ {ps : List β}, (∀ p ∈ ps, RepW K H (f p) (g p)) → RepWs K H (ps.map f) (ps.map g)
  | [], _ => .nil
  | p :: ps, h => .cons (h p List.mem_cons_self) (reps_of fun q m => h q (List.mem_cons_of_mem _ m))
theorem sort_map {α β : Type} {le : β → β → Bool} {f : α → β} (l : List α) : (l.mergeSort fun a b => le (f a) (f b)).map f = (l.map f).mergeSort le := List.map_mergeSort fun _ _ _ _ => rfl
section
variable {X : Cx} {Wx : WX} {K : PySem.W.Frag} {a : Expr} {pos : Pos} {ml : Envr → Sto → LQ → XQ → Prop} {mt : Envr → Sto → (List W → Sto → Prop) → XQ → Prop} {ma : MTE} {S S1 S' : Sto} {H H1 H' : Hp} {σ : Envr} {Z : L2.St} {tg e : Expr}
theorem sndT_srtD {p : Pos} (hc : X.calm = true) (hu : X.A.units + 64 < cLine) (hg : Gl X "sorted") (hm : X.mg "sorted" = none) (h1 : notStar a = true) (ha : PE X a (liftL X.K Wx ml)) :
    SndT X Wx (.Call (.Name "sorted" p) [a] [] pos) (fun σ S Q E => ml σ S (fun xs k _ S1 => k ≠ .tu ∧ srtDW xs S1 fun ys => Q ys S1) E) := by
  refine pe_bltT (op := fun xs k _ S Q => k ≠ .tu ∧ srtDW xs S fun ys => Q ys S) (callOk_b (cr_sortD hu) hg hm boot_sorted (by decide) (by decide)) h1 ha fun ws k st v σ S Z H Q QV g r h p => ?_
  obtain ⟨q, vs, rfl, r1, r2⟩ := r.now g.st
  obtain ⟨hk, ds, hr, al, so, h⟩ := h
  obtain ⟨ps, h1, h2, h3, h4⟩ := rep_zip (resW_dp g.st 8) (resW_depth 8) r1 hr
  refine ⟨q, ps.map fun p => (p.2, p.1.2), rfl, ?_, fun x hx => ?_, ?_, ?_, fun x hx => ?_, fun l hl => ?_⟩
  · rw [List.map_map, show ((fun x : V × PyData => x.1) ∘ fun p : (W × PyData) × V => (p.2, p.1.2)) = (·.2) from rfl, ← h2]; exact r2.sql hk
  · obtain ⟨y, hy, rfl⟩ := List.mem_map.mp hx; exact (h4 y hy).2.1
  · rw [List.map_map, show ((fun x : V × PyData => x.2) ∘ fun p : (W × PyData) × V => (p.2, p.1.2)) = (·.1.2) from rfl, ← h3]; exact al
  · rw [List.map_map, show ((fun x : V × PyData => x.2) ∘ fun p : (W × PyData) × V => (p.2, p.1.2)) = (·.1.2) from rfl, ← h3]; exact so
  · obtain ⟨y, hy, rfl⟩ := List.mem_map.mp hx
    have := (h4 y hy).2.2
    show y.1.2.depth ≤ 40
    omega
  · rw [h1] at h
    have e1 := sort_map (le := PySem.W.dataLe false (fun p : W × PyData => p.2)) (f := fun p : (W × PyData) × V => p.1) ps
    have e2 := sort_map (le := PySem.W.dataLe false (fun p : V × PyData => p.2)) (f := fun p : (W × PyData) × V => (p.2, p.1.2)) ps
    rw [← e1, List.map_map] at h
    rw [← e2, List.map_map]
    refine post_lst p g hl ?_ h
    exact reps_of fun x hx => (h4 x (List.mem_mergeSort.mp hx)).1
theorem Gd.lockK {a : Addr} {kvs : List (Key × W)} {vs : List (Key × V)} {od : Obj} (g : Gd K σ S Z H) (hu : H a = some (.dK vs)) (r : RepF K H kvs vs) : Gd K σ (put S a (.dk true kvs)) Z (upd H a (.frz od (.dK vs))) :=
  ⟨g.len, fun i w e => (g.sl i w e).imp fun v r => ⟨r.1, r.2.mono (Stay.dic hu trivial)⟩, fun b m e => by
    by_cases n : b = a
    · subst n; rw [put_same] at e; cases e; exact ⟨vs, ⟨od, upd_same⟩, r.mono (Stay.dic hu trivial)⟩
    · rw [put_ne n] at e
      exact (g.st b m e).stay (Stay.dic hu trivial) fun v q => by rw [upd_ne n]; exact q⟩
theorem Ext.lockedK {a : Addr} {u o u' : HO} {U0 U1 U : MO} (hS : S a = some U0) (hu : H a = some u) (d : IsDic u) (e : Ext (put S a U1) (upd H a o) S' H') : Ext S H (put S' a U) (upd H' a u') := by
  refine ⟨fun b v q n => ?_, fun b q => ?_, fun b q => ?_, fun b v n q => ?_⟩
  · have hb : b ≠ a := fun z => by rw [z, hS] at n; cases n
    rw [upd_ne hb]
    exact e.fr b v (by rw [upd_ne hb]; exact q) (by rw [put_ne hb]; exact n)
  · by_cases hb : b = a
    · left; rw [hb, hS]; exact Option.some_ne_none _
    · rw [put_ne hb] at q
      rcases e.dm b q with z | z
      · rw [put_ne hb] at z; exact .inl z
      · rw [upd_ne hb] at z; exact .inr z
  · exact upd_th (e.th b (upd_th q))
  · have hb : b ≠ a := fun z => by rw [z, hu] at q; cases q; exact d
    rw [upd_ne hb]
    exact e.fz b v n (by rw [upd_ne hb]; exact q)
theorem sndT_lck (h : SndT X Wx e mt) : SndT X Wx e (fun σ S Q _ => ∃ a kvs, S a = some (.dk false kvs) ∧ mt σ (put S a (.dk true kvs)) (fun ws S1 => Q ws (put S1 a (.dk false kvs))) noX) := by
  refine ⟨pe_weak (pe_lock h.v) fun Z H QV ⟨σ, S, Q, E, g, ⟨a, kvs, hS, hm⟩, p, px⟩ => ?_, h.p⟩
  obtain ⟨vs, hv, rf⟩ := g.st a _ hS
  have hv : H a = some (.dK vs) := hv
  refine ⟨a, .dK vs, hv, trivial, fun od => ?_⟩
  have gl := g.lockK (od := od) hv rf
  refine ⟨σ, put S a (.dk true kvs), _, noX, gl, hm, fun ws S1 q us H1 hq g1 e1 h1 h2 h3 h4 => ?_, PostX.no⟩
  have fz := e1.fz a od (.dK vs) upd_same
  have hqa : q ≠ a := fun z => by rw [z, upd_same] at h4; cases h4
  refine ⟨fz, p ws _ q us _ hq (g1.unlock fz trivial ⟨vs, upd_same, rf.mono (((Stay.dic hv trivial).trans (e1.stay gl.st)).trans (Stay.fz fz trivial))⟩) (e1.lockedK hS hv trivial) (by rw [upd_ne hqa]; exact h1) (h2.mono (Stay.fz fz trivial)) (by rw [put_ne hqa]; exact h3) (by rw [upd_ne hqa] at h4; exact h4)⟩
theorem pi_keysL (ha : PE X e (liftE X.K Wx ma)) : PI X tg e (liftI X.K Wx fun σ S Q E => ma σ S (fun x S1 => match x with
    | .ref a => (match S1 a with
      | some (.dk true kvs) => Q (kvs.map fun kv => kW kv.1) (fun _ => True) S1
      | _ => False)
    | _ => False) E) := by
  refine pi_weak (pi_keys ha) fun Z H R ⟨σ, S, Q, E, g, h, p, px⟩ => ?_
  refine ⟨σ, S, _, E, g, h, fun w S1 v H1 h1 g1 e1 r1 => ?_, px⟩
  cases w <;> first | exact h1.elim | skip
  rename_i a
  cases r1
  dsimp only at h1
  split at h1
  · rename_i kvs hS
    obtain ⟨vs, ⟨od, hz⟩, rf⟩ := g1.st a _ hS
    refine ⟨a, od, rfl, .inl ⟨vs, hz, p _ _ _ _ _ h1 g1 e1 fun S2 H2 x2 g2 _ => ?_⟩⟩
    have hz2 := x2.fz a od (.dK vs) hz
    obtain ⟨k1, k2⟩ := kwalk_k (od := od) (a := a) (rf.mono (x2.stay g1.st)) H2 hz2
    refine ⟨fun i w hw => ⟨(k1 i w hw).1, fun x H3 hy => ?_⟩, k2⟩
    obtain ⟨rfl, r3⟩ := (k1 i w hw).2 x H3 hy
    exact ⟨g2, .refl, r3⟩
  · exact h1.elim
end
section
variable {X : Cx} {Wx : WX} {K : PySem.W.Frag} {a : Expr} {pos : Pos} {ml : Envr → Sto → LQ → XQ → Prop} {S S1 : Sto} {H H1 : Hp}
theorem keyOf2_eq {w : W} {k : Int × Int} (h : keyOf2 w = some k) : w = .tup [.int k.1, .int k.2] := by
  unfold keyOf2 at h
  split at h
  · cases h; rfl
  · cases h
theorem pairs_rep : ∀ {ws : List W} {vs : List V}, RepWs K H ws vs → (∀ w ∈ ws, ∃ k, keyOf2 w = some k) → (∀ x ∈ vs, ∃ p, PairV K H x p ∧ ∃ t, x = .ref t ∧ H t = some (.tup [.int p.1, .int p.2])) ∧ ∀ k : V → Int × Int, (∀ x q, PairV K H x q → x ∈ vs → q = k x) → ws.filterMap keyOf2 = vs.map k
  | _, _, .nil, _ => ⟨fun x h => (by cases h), fun k _ => rfl⟩
  | w :: ws, v :: vs, .cons r t, h => by
    obtain ⟨q, hq⟩ := h w List.mem_cons_self
    have pv : PairV K H v q ∧ ∃ t, v = .ref t ∧ H t = some (.tup [.int q.1, .int q.2]) := by
      have e := keyOf2_eq hq
      subst e
      cases r with
      | tup st rs =>
        cases rs with
        | cons r1 rs => cases r1; cases rs with
          | cons r2 rs => cases r2; cases rs; exact ⟨⟨_, rfl, SqT.of st⟩, _, rfl, st⟩
    obtain ⟨h1, h2⟩ := pairs_rep t fun u hu => h u (List.mem_cons_of_mem _ hu)
    refine ⟨fun x hx => ?_, fun k hk => ?_⟩
    · rcases List.mem_cons.mp hx with e | e
      · rw [e]; exact ⟨q, pv⟩
      · exact h1 x e
    · rw [List.filterMap_cons, hq, List.map_cons, hk v q pv.1 List.mem_cons_self, h2 k fun x q p m => hk x q p (List.mem_cons_of_mem _ m)]
theorem rep_pairs (k : V → Int × Int) : ∀ {vs : List V}, (∀ x ∈ vs, ∃ t, x = .ref t ∧ H t = some (.tup [.int (k x).1, .int (k x).2])) → RepWs K H ((vs.map k).map fun p => .tup [.int p.1, .int p.2]) vs
  | [], _ => .nil
  | v :: vs, h => by
    obtain ⟨t, rfl, st⟩ := h v List.mem_cons_self
    exact .cons (.tup st (.cons (.int _) (.cons (.int _) .nil))) (rep_pairs k fun x m => h x (List.mem_cons_of_mem _ m))
theorem sndT_srt {p : Pos} (hc : X.calm = true) (hg : Gl X "sorted") (hm : X.mg "sorted" = none) (h1 : notStar a = true) (ha : PE X a (liftL X.K Wx ml)) :
    SndT X Wx (.Call (.Name "sorted" p) [a] [] pos) (fun σ S Q E => ml σ S (fun xs k _ S1 => k ≠ .tu ∧ srtW xs fun ys => Q ys S1) E) := by
  refine pe_bltT (op := fun xs k _ S Q => k ≠ .tu ∧ srtW xs fun ys => Q ys S) (callOk_b (CallR.or cr_sortedI cr_sortW) hg hm boot_sorted (by decide) (by decide)) h1 ha fun ws k st v σ S Z H Q QV g r h p => ?_
  obtain ⟨q, vs, rfl, r1, r2⟩ := r.now g.st
  obtain ⟨hk, h⟩ := h
  unfold srtW at h
  cases e : intsOf ws with
  | some ns =>
    rw [e] at h
    obtain rfl := intsOf_eq e
    obtain rfl := r1.ints
    exact .inl ⟨q, ns, rfl, r2.sql hk, fun ns' l pm so hl => post_lst p g hl (RepWs.ofInts ns') (h ns' pm so)⟩
  | none =>
    rw [e] at h
    obtain ⟨ex, h⟩ := h
    obtain ⟨h1, h2⟩ := pairs_rep r1 ex
    refine .inr ⟨q, vs, rfl, r2.sql hk, (fun x hx => (h1 x hx).imp fun _ z => z.1), fun ys kf l hk1 hk2 pm so hl => ?_⟩
    refine post_lst p g hl (rep_pairs kf fun x m => ?_) (h _ ?_ so)
    · obtain ⟨q', pv, t, e1, e2⟩ := h1 x (pm.mem_iff.mp m)
      rw [← hk2 x q' pv (pm.mem_iff.mp m)]
      exact ⟨t, e1, e2⟩
    rw [h2 kf hk2]
    exact pm.map kf
theorem sndT_sset {p p2 pos2 : Pos} (hc : X.calm = true) (hg : Gl X "sorted") (hm : X.mg "sorted" = none) (hg2 : Gl X "set") (hm2 : X.mg "set" = none) (h1 : notStar a = true) (ha : PE X a (liftL X.K Wx ml)) :
    SndT X Wx (.Call (.Name "sorted" p) [.Call (.Name "set" p2) [a] [] pos2] [] pos) (fun σ S Q E => ml σ S (fun xs k _ S1 => k ≠ .tu ∧ sSetW xs fun ys => Q ys S1) E) := by
  have inner := callOk_t (r := rSetL X.K X.w) (cr_setL hc) hg2 hm2 boot_set (by decide) (by decide) (p := p2) (pos := pos2) (a := a) (es := []) (by simp [noStars, h1]) (pa_cons ha pa_nil (star_cons h1))
  have outer := callOk_b (r := rSortS X.w) (cr_sortS hc) hg hm boot_sorted (by decide) (by decide) (p := p) (pos := pos) (a := .Call (.Name "set" p2) [a] [] pos2) (es := []) rfl (pa_cons inner pa_nil (star_cons rfl))
  refine ⟨pe_weak outer fun Z H QV ⟨σ, S, Q, E, g, h, ps, px⟩ => ?_, fun _ => rfl, fun ⟨_, _, _, z⟩ => by cases z⟩
  refine ⟨σ, S, _, E, g, h, fun ws k st S1 v H1 q g1 e1 r1 => ?_, px⟩
  obtain ⟨b, vs, rfl, r2, r3⟩ := r1.now g1.st
  obtain ⟨hk, q⟩ := q
  unfold sSetW at q
  cases e : intsOf ws with
  | none => rw [e] at q; exact q.elim
  | some ns =>
    rw [e] at q
    obtain rfl := intsOf_eq e
    obtain rfl := r2.ints
    refine ⟨b, ns, rfl, r3.sql hk, q.1, fun d c hd => ⟨d, _, c, rfl, upd_same, fun ns' l so mem hl => ?_⟩⟩
    have x1 : Ext S1 H1 S1 (upd H1 d (SetO X.w d (fun j => decide (j ∈ ns)) c)) := Ext.fresh hd
    have g2 := g1.next x1 (g1.st.fresh hd)
    exact post_lst (PostT.next ps (e1.trans x1)) g2 hl (RepWs.ofInts ns') (q.2 ns' so fun j => by rw [mem j, decide_eq_true_iff])
end
variable {C : Ctx} {G : Gs}
structure Here (C : Ctx) (G : Gs) (X : Cx) (Wx : WX) (sc : Scope) (tp : Bool) : Prop where
  ok : XOk C G X Wx
  sc : X.env.scope = sc
  fn : tp = true → ∀ x, X.fn x = true
  up : tp = true → X.stack = X.env :: X.outer ∧ X.env.frame = some X.env.locals ∨ C.hot = true
section
variable {X : Cx} {Wx : WX} {sc : Scope} {tp : Bool}
theorem vis_of {x : Str} (h : visB sc x = true) : Vis sc x := by
  unfold visB at h
  unfold Vis
  split at h
  · exact .inl (by assumption)
  · exact .inr (.inl (by assumption))
  · exact .inr (.inr (by assumption))
  · cases h
theorem gl_of (hh : Here C G X Wx sc tp) {x : Str} (h : glB sc x = true) : Gl X x := by
  unfold glB at h
  unfold Gl Env.kindOf
  rw [hh.sc]
  split at h
  · assumption
  · cases h
theorem loc_of (hh : Here C G X Wx sc tp) {x : Str} (h : stoB tp sc x = true) : Loc X.env.scope x ∧ (X.fn x = true ∨ X.env.scope.names.lookup x = some .local) := by
  unfold stoB at h
  unfold L2.Loc
  rw [hh.sc]
  split at h
  · rename_i e; exact ⟨.inl e, .inr e⟩
  · rename_i e; exact ⟨.inr e, .inl (hh.fn h x)⟩
  · cases h
theorem callNm_of {x : Str} {e : Expr} {args : List Expr} (h : callNm sc x e = some args) : ∃ p pos, e = .Call (.Name x p) args [] pos ∧ glB sc x = true ∧ plainNm x = true := by
  unfold callNm at h
  split at h
  · split at h
    · rename_i y p args' pos hc
      cases h
      simp only [Bool.and_eq_true, decide_eq_true_eq] at hc
      obtain ⟨⟨rfl, h2⟩, h3⟩ := hc
      exact ⟨_, _, rfl, h2, h3⟩
    · cases h
  · cases h
theorem Here.m (hh : Here C G X Wx sc tp) {x : Str} (h : x ∈ bltNames) : X.mg x = none := hh.ok.blt x h
theorem Here.hN (hh : Here C G X Wx sc tp) {i : Nat} {x : Str} (h : C.N[i]? = some x) : X.N[i]? = some x := by rw [hh.ok.N]; exact h
theorem Here.blk (hh : Here C G X Wx sc tp) (hhot : C.hot = false) (s : Shared) (H : Hp) (scope : Scope) (Cc : Addr) (cl : List (Str × Addr)) (fp : List Addr) : Here C G (X.blk s H scope (compEnvC scope cl Cc X.env) fp) noW (relS scope sc) false where
  ok := {
    N := hh.ok.N
    calm := hh.ok.calm
    nd := hh.ok.nd
    un := hh.ok.un
    room := hh.ok.room
    hxs := fun h => by rw [hhot] at h; cases h
    mth := hh.ok.mth
    mks := hh.ok.mks
    fld := hh.ok.fld
    exc := fun c x h => let e := hh.ok.exc c x h; ⟨e.glo, e.xin, e.kp, e.bs, e.ty, e.exc, e.ve⟩
    exm := hh.ok.exm
    exs := hh.ok.exs
    gls := hh.ok.gls
    hx0 := hh.ok.hx0
    hx := fun a n h => by rw [hh.ok.hx0 hhot] at h; cases h
    takes := fun _ _ x => by
      obtain ⟨_, _, _, _, _, _, _, _, _, _, _, _, _, _, _, _, z⟩ := x
      exact z.elim
    po := PassesOwn.never
    fns := hh.ok.fns
    blt := hh.ok.blt }
  sc := by rw [← hh.sc]; rfl
  fn := fun z => by cases z
  up := fun z => by cases z
end
theorem isxT_pa {C : Ctx} {G : Gs} {X : Cx} {Wx : WX} {sc : Scope} {tp : Bool} {n : Nat} {xn : Str} (hh : Here C G X Wx sc tp) (hxn : (n, xn) ∈ C.exc) : ∀ {cs : List Nat} {ys : List Expr}, isxTB C sc cs ys = true →
    PA X ys (tAs (cs.map fun c => V.ref (G.cl c))) ∧ Paired ClsV (cs.map fun c => V.ref (G.cl c)) (cs.map fun c => Value.ref (G.cl c)) ∧ PySem.W.kitAny X.K (.ref (G.cl n)) (cs.map fun c => Value.ref (G.cl c)) = some (cs.any fun c => subX n c) ∧ cs.length = ys.length
  | [], [], _ => ⟨pa_nil, .nil, rfl, rfl⟩
  | c :: cs, .Name y _ :: r, h => by
    simp only [isxTB, Bool.and_eq_true, List.contains_eq_mem, decide_eq_true_eq] at h
    obtain ⟨⟨⟨h1, h2⟩, h3⟩, h4⟩ := h
    obtain ⟨a, b, e, l⟩ := isxT_pa hh hxn h4
    have F := hh.ok.exc c y h1
    refine ⟨pa_cons (pe_glob (v := .ref (G.cl c)) (gl_of hh h2) F.glo rfl (plain_dbg h3)) a (star_cons rfl), .cons (.own _) b, ?_, by rw [List.length_cons, List.length_cons, l]⟩
    rw [List.map_cons, List.any_cons]
    unfold PySem.W.kitAny
    rw [(hh.ok.exm n xn c y hxn h1).2]
    cases subX n c with
    | true => rfl
    | false => exact e
  | [], _ :: _, h => by simp [isxTB] at h
  | _ :: _, [], h => by simp [isxTB] at h
mutual
theorem soundE : ∀ (ir : IE) {X : Cx} {Wx : WX} {sc : Scope} {tp : Bool} {e : Expr}, Here C G X Wx sc tp → chkE C ir sc tp e = true → Snd X Wx e (wpE G ir)
  | .var i, X, Wx, sc, tp, e, hh, h => by
    rw [wpE]
    cases e <;> first | (simp [chkE] at h; done) | skip
    simp only [chkE, nmB, Bool.and_eq_true, decide_eq_true_eq] at h
    exact snd_var (hh.hN h.1.1) (by rw [hh.sc]; exact vis_of h.1.2) h.2
  | .cst w, X, Wx, sc, tp, e, hh, h => by
    rw [wpE]
    exact snd_cst h
  | .bin op a b, X, Wx, sc, tp, e, hh, h => by
    rw [wpE]
    cases e <;> first | (simp [chkE] at h; done) | skip
    simp only [chkE, Bool.and_eq_true] at h
    exact snd_bin h.1.1 (soundE a hh h.1.2).v (soundE b hh h.2).v
  | .neg a, X, Wx, sc, tp, e, hh, h => by
    rw [wpE]
    cases e <;> first | (simp [chkE] at h; done) | skip
    rename_i op x pos
    cases op <;> first | (simp [chkE] at h; done) | skip
    simp only [chkE] at h
    exact snd_neg (soundE a hh h).v
  | .cmp op a b, X, Wx, sc, tp, e, hh, h => by
    rw [wpE]
    unfold chkE at h
    split at h
    · simp only [Bool.and_eq_true] at h
      exact snd_cmp h.1.1 hh.ok.hu (soundE a hh h.1.2).v (soundE b hh h.2).v
    · cases h
  | .chn o p a b c, X, Wx, sc, tp, e, hh, h => by
    rw [wpE]
    unfold chkE at h
    split at h
    · simp only [Bool.and_eq_true] at h
      exact snd_chn h.1.1.1.1 h.1.1.1.2 hh.ok.hu (soundE a hh h.1.1.2).v (soundE b hh h.1.2).v (soundE c hh h.2).v
    · cases h
  | .isN k a, X, Wx, sc, tp, e, hh, h => by
    rw [wpE]
    unfold chkE at h
    split at h
    · simp only [Bool.and_eq_true] at h
      exact snd_isN h.1 (soundE a hh h.2).v
    · cases h
  | .isB k a b, X, Wx, sc, tp, e, hh, h => by
    rw [wpE]
    unfold chkE at h
    split at h
    · simp only [Bool.and_eq_true, beq_iff_eq] at h
      have e := h.1.2
      subst e
      exact snd_isB h.1.1 (soundE a hh h.2).v
    · cases h
  | .inn k a b, X, Wx, sc, tp, e, hh, h => by
    rw [wpE]
    unfold chkE at h
    split at h
    · simp only [Bool.and_eq_true] at h
      exact snd_inn (by have := hh.ok.hu; omega) h.1.1.1 h.1.1.2 (soundE a hh h.1.2).v (soundE b hh h.2).v
    · cases h
  | .and a b, X, Wx, sc, tp, e, hh, h => by
    rw [wpE]
    unfold chkE at h
    split at h
    · rename_i x y rest pos
      simp only [Bool.and_eq_true] at h
      have ha := soundE a hh h.1
      have h2 := h.2
      split at h2
      · have hb := soundE b hh h2
        exact snd_and (p2 := pos) ha hb.one.1 hb.one.2
      · have hb := soundE b hh h2
        exact snd_and (p2 := pos) ha hb.v (hb.w ⟨_, _, _, rfl⟩)
    · cases h
  | .or a b, X, Wx, sc, tp, e, hh, h => by
    rw [wpE]
    unfold chkE at h
    split at h
    · rename_i x y rest pos
      simp only [Bool.and_eq_true] at h
      have ha := soundE a hh h.1
      have h2 := h.2
      split at h2
      · have hb := soundE b hh h2
        exact snd_or (p2 := pos) ha hb.one.1 hb.one.2
      · have hb := soundE b hh h2
        exact snd_or (p2 := pos) ha hb.v (hb.w ⟨_, _, _, rfl⟩)
    · cases h
  | .not a, X, Wx, sc, tp, e, hh, h => by
    rw [wpE]
    unfold chkE at h
    split at h
    · exact snd_not (soundE a hh h)
    · cases h
  | .ite c a b, X, Wx, sc, tp, e, hh, h => by
    rw [wpE]
    unfold chkE at h
    split at h
    · simp only [Bool.and_eq_true] at h
      exact snd_ite (soundE c hh h.1.1) (soundE a hh h.1.2) (soundE b hh h.2)
    · cases h
  | .tup es, X, Wx, sc, tp, e, hh, h => by
    rw [wpE]
    unfold chkE at h
    split at h
    · exact snd_tup (soundEs es hh h).1
    · cases h
  | .idx a i, X, Wx, sc, tp, e, hh, h => by
    rw [wpE]
    unfold chkE at h
    split at h
    · simp only [Bool.and_eq_true] at h
      exact snd_idx (by have := hh.ok.hu; omega) h.1.1 (soundE a hh h.1.2).v (soundE i hh h.2).v
    · cases h
  | .slc a lo hi, X, Wx, sc, tp, e, hh, h => by
    rw [wpE]
    unfold chkE at h
    split at h
    · simp only [Bool.and_eq_true] at h
      exact snd_slc (soundE a hh h.1.1).v (soundO lo hh h.1.2) (soundO hi hh h.2)
    · cases h
  | .call f es, X, Wx, sc, tp, e, hh, h => by
    rw [wpE]
    unfold chkE at h
    split at h
    · rename_i x hx
      split at h
      · rename_i args hc
        obtain ⟨p, pos, rfl, hg, hpl⟩ := callNm_of hc
        simp only [Bool.and_eq_true, Bool.not_eq_true'] at h
        obtain ⟨h, hot⟩ := h
        obtain ⟨k, fa, fd, ps, F, hr, hm, hk, hb⟩ := hh.ok.fns f x hx hot
        obtain ⟨hs, hns⟩ := soundEs es hh h
        cases es with
        | nil =>
          cases args with
          | nil => exact snd_call0 F hr hm hk hb hh.ok.takes (gl_of hh hg) hpl
          | cons _ _ => simp [chkEs] at h
        | cons e1 er =>
          cases args with
          | nil => simp [chkEs] at h
          | cons a1 ar => exact snd_call F hr hm hk hb hh.ok.takes (gl_of hh hg) hpl hns hs
      · cases h
    · cases h
  | .isa a t, X, Wx, sc, tp, e, hh, h => by
    rw [wpE]
    unfold chkE at h
    split at h
    · rename_i x y p hc
      obtain ⟨p, pos, rfl, hg, hpl⟩ := callNm_of hc
      simp only [Bool.and_eq_true] at h
      obtain ⟨t1, t2, t3, t4, t5⟩ := isaT_of h.1.1.2
      exact snd_isa (gl_of hh hg) (hh.m (by decide)) (gl_of hh h.1.1.1.1) (hh.m t4) h.1.1.2 h.1.2 (soundE a hh h.2).v
    · cases h
  | .mx a b, X, Wx, sc, tp, e, hh, h => by
    rw [wpE]
    unfold chkE at h
    split at h
    · rename_i x y hc
      obtain ⟨p, pos, rfl, hg, hpl⟩ := callNm_of hc
      simp only [Bool.and_eq_true, Bool.not_eq_true'] at h
      obtain ⟨h, hot⟩ := h
      exact snd_mx (hh.ok.calm hot) (gl_of hh hg) (hh.m (by decide)) h.1.2 h.2 (soundE a hh h.1.1.1).v (soundE b hh h.1.1.2).v
    · cases h
  | .mn a b, X, Wx, sc, tp, e, hh, h => by
    rw [wpE]
    unfold chkE at h
    split at h
    · rename_i x y hc
      obtain ⟨p, pos, rfl, hg, hpl⟩ := callNm_of hc
      simp only [Bool.and_eq_true, Bool.not_eq_true'] at h
      obtain ⟨h, hot⟩ := h
      exact snd_mn (hh.ok.calm hot) (gl_of hh hg) (hh.m (by decide)) h.1.2 h.2 (soundE a hh h.1.1.1).v (soundE b hh h.1.1.2).v
    · cases h
  | .len a, X, Wx, sc, tp, e, hh, h => by
    rw [wpE]
    unfold chkE at h
    split at h
    · rename_i x hc
      obtain ⟨p, pos, rfl, hg, hpl⟩ := callNm_of hc
      simp only [Bool.and_eq_true] at h
      exact snd_len (gl_of hh hg) (hh.m (by decide)) h.2 (soundE a hh h.1).v
    · cases h
  | .mat t, X, Wx, sc, tp, e, hh, h => by
    rw [wpE]
    exact snd_mat (soundT t hh h).t
  | .tupl l, X, Wx, sc, tp, e, hh, h => by
    rw [wpE]
    unfold chkE at h
    split at h
    · rename_i x hc
      obtain ⟨p, pos, rfl, hg, hpl⟩ := callNm_of hc
      simp only [Bool.and_eq_true] at h
      exact snd_tupl (gl_of hh hg) (hh.m (by decide)) h.2 (soundL l hh h.1)
    · cases h
  | .sum l, X, Wx, sc, tp, e, hh, h => by
    rw [wpE]
    unfold chkE at h
    split at h
    · rename_i x hc
      obtain ⟨p, pos, rfl, hg, hpl⟩ := callNm_of hc
      simp only [Bool.and_eq_true, Bool.not_eq_true'] at h
      obtain ⟨h, hot⟩ := h
      exact snd_sum (hh.ok.calm hot) (gl_of hh hg) (hh.m (by decide)) h.2 (soundL l hh h.1)
    · cases h
  | .any l, X, Wx, sc, tp, e, hh, h => by
    rw [wpE]
    unfold chkE at h
    split at h
    · rename_i x hc
      obtain ⟨p, pos, rfl, hg, hpl⟩ := callNm_of hc
      simp only [Bool.and_eq_true, Bool.not_eq_true'] at h
      obtain ⟨h, hot⟩ := h
      exact snd_any (hh.ok.calm hot) (gl_of hh hg) (hh.m (by decide)) h.2 (soundL l hh h.1)
    · cases h
  | .all l, X, Wx, sc, tp, e, hh, h => by
    rw [wpE]
    unfold chkE at h
    split at h
    · rename_i x hc
      obtain ⟨p, pos, rfl, hg, hpl⟩ := callNm_of hc
      simp only [Bool.and_eq_true, Bool.not_eq_true'] at h
      obtain ⟨h, hot⟩ := h
      exact snd_all (hh.ok.calm hot) (gl_of hh hg) (hh.m (by decide)) h.2 (soundL l hh h.1)
    · cases h
  | .max1 l, X, Wx, sc, tp, e, hh, h => by
    rw [wpE]
    unfold chkE at h
    split at h
    · rename_i x hc
      obtain ⟨p, pos, rfl, hg, hpl⟩ := callNm_of hc
      simp only [Bool.and_eq_true, Bool.not_eq_true'] at h
      obtain ⟨h, hot⟩ := h
      exact snd_max1 (hh.ok.calm hot) (gl_of hh hg) (hh.m (by decide)) h.2 (soundL l hh h.1)
    · cases h
  | .min1 l, X, Wx, sc, tp, e, hh, h => by
    rw [wpE]
    unfold chkE at h
    split at h
    · rename_i x hc
      obtain ⟨p, pos, rfl, hg, hpl⟩ := callNm_of hc
      simp only [Bool.and_eq_true, Bool.not_eq_true'] at h
      obtain ⟨h, hot⟩ := h
      exact snd_min1 (hh.ok.calm hot) (gl_of hh hg) (hh.m (by decide)) h.2 (soundL l hh h.1)
    · cases h
  | .idl l i, X, Wx, sc, tp, e, hh, h => by
    rw [wpE]
    unfold chkE at h
    split at h
    · simp only [Bool.and_eq_true] at h
      exact snd_idl h.1.1 (soundL l hh h.1.2) (soundE i hh h.2).v
    · cases h
  | .eql k a b, X, Wx, sc, tp, e, hh, h => by
    rw [wpE]
    unfold chkE at h
    split at h
    · simp only [Bool.and_eq_true] at h
      exact snd_eql h.1.1 hh.ok.hu (soundL a hh h.1.2) (soundL b hh h.2)
    · cases h
  | .app o x, X, Wx, sc, tp, e, hh, h => by
    rw [wpE]
    unfold chkE at h
    split at h
    · rename_i hc
      obtain ⟨ap, pos, rfl, hb0, hl⟩ := callMt_of hc
      simp only [Bool.and_eq_true] at h
      exact snd_app hl h.2 hb0 (soundE o hh h.1.1).v (soundE x hh h.1.2).v
    · cases h
  | .ext o l, X, Wx, sc, tp, e, hh, h => by
    rw [wpE]
    unfold chkE at h
    split at h
    · rename_i hc
      obtain ⟨ap, pos, rfl, hb0, hl⟩ := callMt_of hc
      simp only [Bool.and_eq_true] at h
      exact snd_ext hl h.2 hb0 (soundE o hh h.1.1).v (soundL l hh h.1.2)
    · cases h
  | .pop0 o, X, Wx, sc, tp, e, hh, h => by
    rw [wpE]
    unfold chkE at h
    split at h
    · rename_i hc
      obtain ⟨ap, pos, rfl, hb0, hl⟩ := callMt_of hc
      exact snd_pop0 hl hb0 (soundE o hh h).v
    · cases h
  | .pop1 o i, X, Wx, sc, tp, e, hh, h => by
    rw [wpE]
    unfold chkE at h
    split at h
    · rename_i hc
      obtain ⟨ap, pos, rfl, hb0, hl⟩ := callMt_of hc
      simp only [Bool.and_eq_true] at h
      exact snd_pop1 hl h.2 hb0 (soundE o hh h.1.1).v (soundE i hh h.1.2).v
    · cases h
  | .fld c o f, X, Wx, sc, tp, e, hh, h => by
    rw [wpE]
    unfold chkE at h
    split at h
    · simp only [Bool.and_eq_true, decide_eq_true_eq, List.contains_eq_mem] at h
      obtain ⟨⟨⟨rfl, h1⟩, h2⟩, h3⟩ := h
      obtain ⟨hc, hn⟩ := hh.ok.fld c _ h2
      exact snd_fld h1 hc hn (soundE o hh h3).v
    · cases h
  | .meth f c m o es, X, Wx, sc, tp, e, hh, h => by
    rw [wpE]
    unfold chkE at h
    split at h
    · simp only [Bool.and_eq_true, decide_eq_true_eq, List.contains_eq_mem, Bool.not_eq_true'] at h
      obtain ⟨⟨⟨⟨⟨⟨⟨rfl, h1⟩, h2⟩, h3⟩, h4⟩, hot⟩, h5⟩, h6⟩ := h
      obtain ⟨k, fa, fd, ps, F, hr, hc, hm, hb⟩ := hh.ok.mth f c _ h4 hot
      obtain ⟨hs, hns⟩ := soundEs es hh h6
      rename_i args _
      cases es with
      | nil =>
        cases args with
        | nil =>
          rw [wpEs] at *
          exact snd_meth0 h1 hc hm F hr hb hh.ok.takes h2 (soundE o hh h5).v
        | cons _ _ => simp [chkEs] at h6
      | cons e1 er =>
        cases args with
        | nil => simp [chkEs] at h6
        | cons a1 ar => exact snd_meth h1 hc hm F hr hb hh.ok.takes hns h3 h2 (soundE o hh h5).v hs
    · cases h
  | .make f c es, X, Wx, sc, tp, e, hh, h => by
    rw [wpE]
    unfold chkE at h
    split at h
    · simp only [Bool.and_eq_true, List.contains_eq_mem, decide_eq_true_eq, Bool.not_eq_true'] at h
      obtain ⟨⟨⟨⟨h1, hot⟩, h2⟩, h3⟩, h6⟩ := h
      obtain ⟨k, fa, fd, ps, F, hr, M, hm, hb⟩ := hh.ok.mks f c _ h1 hot
      obtain ⟨hs, hns⟩ := soundEs es hh h6
      rename_i args _
      cases es with
      | nil =>
        cases args with
        | nil =>
          rw [wpEs] at *
          exact snd_make0 M F hr (gl_of hh h2) hm hb hh.ok.takes h3
        | cons _ _ => simp [chkEs] at h6
      | cons e1 er =>
        cases args with
        | nil => simp [chkEs] at h6
        | cons a1 ar => exact snd_make M F hr (gl_of hh h2) hm hb hh.ok.takes h3 hns hs
    · cases h
  | .glb x k, X, Wx, sc, tp, e, hh, h => by
    rw [wpE]
    unfold chkE at h
    split at h
    · simp only [Bool.and_eq_true, decide_eq_true_eq, List.any_eq_true] at h
      obtain ⟨⟨⟨rfl, q, h1, rfl⟩, h2⟩, h3⟩ := h
      obtain ⟨u, hm, r⟩ := hh.ok.gls _ k h1
      exact snd_glb (gl_of hh h2) hm r h3
    · cases h
  | .isx o c, X, Wx, sc, tp, e, hh, h => by
    rw [wpE]
    unfold chkE at h
    split at h
    · rename_i x y p2 hc
      obtain ⟨p, pos, rfl, hg, hpl⟩ := callNm_of hc
      simp only [Bool.and_eq_true] at h
      obtain ⟨⟨⟨⟨⟨h1, hot⟩, h2⟩, h3⟩, h4⟩, h5⟩ := h
      cases eh : G.hx with
      | none =>
        obtain ⟨_, _, z⟩ := hh.ok.hxs hot
        rw [eh] at z; cases z
      | some an =>
        obtain ⟨ad, n⟩ := an
        obtain ⟨⟨xn, hxn⟩, hr, _⟩ := hh.ok.hx ad n eh
        cases c with
        | some d =>
          simp only [List.contains_eq_mem, decide_eq_true_eq] at h1
          have F := hh.ok.exc d y h1
          exact snd_isx hr (gl_of hh hg) (hh.m (by decide)) (pe_glob (v := .ref (G.cl d)) (gl_of hh h2) F.glo rfl (plain_dbg h3)) (fun u r => r) (hh.ok.exm n xn d y hxn h1).2 h4 (soundE o hh h5).v
        | none =>
          simp only [decide_eq_true_eq] at h1
          subst h1
          have F := hh.ok.exc n xn hxn
          exact snd_isx hr (gl_of hh hg) (hh.m (by decide)) (pe_bltn (v := .ty "ValueError") (gl_of hh h2) (hh.m (by decide)) (by decide +kernel) rfl (by decide) (plain_dbg h3)) (fun u r => r) F.ve h4 (soundE o hh h5).v
    · cases h
  | .isxT o cs, X, Wx, sc, tp, e, hh, h => by
    rw [wpE]
    unfold chkE at h
    split at h
    · rename_i x ys k p2 hc
      obtain ⟨p, pos, rfl, hg, hpl⟩ := callNm_of hc
      simp only [Bool.and_eq_true] at h
      obtain ⟨⟨⟨⟨h1, hot⟩, h4⟩, h6⟩, h5⟩ := h
      cases eh : G.hx with
      | none =>
        obtain ⟨_, _, z⟩ := hh.ok.hxs hot
        rw [eh] at z; cases z
      | some an =>
        obtain ⟨ad, n⟩ := an
        obtain ⟨⟨xn, hxn⟩, _, hr⟩ := hh.ok.hx ad n eh
        obtain ⟨hp, hcl, hk, hlen⟩ := isxT_pa hh hxn h1
        exact snd_isxT hr (gl_of hh hg) (hh.m (by decide)) hp (by rw [List.length_map, hlen, sizeLine_eq]; have := of_decide_eq_true h6; omega) hcl hk h4 (soundE o hh h5).v
    · cases h
  | .join s l, X, Wx, sc, tp, e, hh, h => by
    rw [wpE]
    unfold chkE at h
    split at h
    · rename_i hc
      obtain ⟨ap, pos, rfl, hb0, hl⟩ := callMt_of hc
      simp only [Bool.and_eq_true] at h
      exact snd_join hl h.2 hb0 (soundE s hh h.1.1).v (soundL l hh h.1.2)
    · cases h
  | .strI a, X, Wx, sc, tp, e, hh, h => by
    rw [wpE]
    unfold chkE at h
    split at h
    · rename_i x hc
      obtain ⟨p, pos, rfl, hg, hpl⟩ := callNm_of hc
      simp only [Bool.and_eq_true] at h
      exact snd_strI (gl_of hh hg) (hh.m (by decide)) h.2 (soundE a hh h.1).v
    · cases h
  | .intE a, X, Wx, sc, tp, e, hh, h => by
    rw [wpE]
    unfold chkE at h
    split at h
    · rename_i x hc
      obtain ⟨p, pos, rfl, hg, hpl⟩ := callNm_of hc
      simp only [Bool.and_eq_true] at h
      exact snd_intE (gl_of hh hg) (hh.m (by decide)) h.2 (soundE a hh h.1).v
    · cases h
  | .absI a, X, Wx, sc, tp, e, hh, h => by
    rw [wpE]
    unfold chkE at h
    split at h
    · rename_i x hc
      obtain ⟨p, pos, rfl, hg, hpl⟩ := callNm_of hc
      simp only [Bool.and_eq_true] at h
      exact snd_absI (gl_of hh hg) (hh.m (by decide)) h.2 (soundE a hh h.1).v
    · cases h
  | .ins o i x, X, Wx, sc, tp, e, hh, h => by
    rw [wpE]
    unfold chkE at h
    split at h
    · rename_i hc
      obtain ⟨ap, pos, rfl, hb0, hl⟩ := callMt_of hc
      simp only [Bool.and_eq_true] at h
      exact snd_ins hl h.1.1.2 h.2 hb0 (soundE o hh h.1.1.1.1).v (soundE i hh h.1.1.1.2).v (soundE x hh h.1.2).v
    · cases h
  | .rem o x, X, Wx, sc, tp, e, hh, h => by
    rw [wpE]
    unfold chkE at h
    split at h
    · rename_i hc
      obtain ⟨ap, pos, rfl, hb0, hl⟩ := callMt_of hc
      simp only [Bool.and_eq_true] at h
      exact snd_rem hl h.2 hb0 (soundE o hh h.1.1).v (soundE x hh h.1.2).v
    · cases h
  | .ixo o x, X, Wx, sc, tp, e, hh, h => by
    rw [wpE]
    unfold chkE at h
    split at h
    · rename_i hc
      obtain ⟨ap, pos, rfl, hb0, hl⟩ := callMt_of hc
      simp only [Bool.and_eq_true] at h
      exact snd_ixo hl h.2 hb0 (soundE o hh h.1.1).v (soundE x hh h.1.2).v
    · cases h
  | .revm o, X, Wx, sc, tp, e, hh, h => by
    rw [wpE]
    unfold chkE at h
    split at h
    · rename_i hc
      obtain ⟨ap, pos, rfl, hb0, hl⟩ := callMt_of hc
      exact snd_revm hl hb0 (soundE o hh h).v
    · cases h
  | .clr o, X, Wx, sc, tp, e, hh, h => by
    rw [wpE]
    unfold chkE at h
    split at h
    · rename_i hc
      obtain ⟨ap, pos, rfl, hb0, hl⟩ := callMt_of hc
      exact snd_clr hl hb0 (soundE o hh h).v
    · cases h
  | .dnew t, X, Wx, sc, tp, e, hh, h => by
    rw [wpE]
    unfold chkE at h
    split at h
    · exact snd_dnew
    · cases h
  | .dget d k x, X, Wx, sc, tp, e, hh, h => by
    rw [wpE]
    unfold chkE at h
    split at h
    · rename_i hc
      obtain ⟨ap, pos, rfl, hb0, hl⟩ := callMt_of hc
      simp only [Bool.and_eq_true] at h
      exact snd_dget (by have := hh.ok.hu; omega) hl h.1.1.2 h.2 hb0 (soundE d hh h.1.1.1.1).v (soundE k hh h.1.1.1.2).v (soundE x hh h.1.2).v
    · cases h
  | .deq k a b, X, Wx, sc, tp, e, hh, h => by
    rw [wpE]
    unfold chkE at h
    split at h
    · simp only [Bool.and_eq_true] at h
      exact snd_deq h.1.1 hh.ok.hu (soundE a hh h.1.2).v (soundE b hh h.2).v
    · cases h
  | .ddsp ks es, X, Wx, sc, tp, e, hh, h => by
    rw [wpE]
    unfold chkE at h
    split at h
    · simp only [Bool.and_eq_true, decide_eq_true_eq] at h
      obtain ⟨⟨⟨h1, h2⟩, h3⟩, h4⟩ := h
      obtain ⟨k1, k2⟩ := keysB_len h1
      obtain ⟨trs, p1, p2⟩ := soundPs es ks hh h1 (by simpa using h3) h4
      exact snd_ddsp p1 p2 k2 (by simpa using h3) (by simp) (by rw [List.length_cons]; omega) k1
    · cases h
  | .setd d k x, X, Wx, sc, tp, e, hh, h => by
    rw [wpE]
    unfold chkE at h
    split at h
    · rename_i hc
      obtain ⟨ap, pos, rfl, hb0, hl⟩ := callMt_of hc
      simp only [Bool.and_eq_true] at h
      exact snd_setd hl h.1.1.2 h.2 hb0 (soundE d hh h.1.1.1.1).v (soundE k hh h.1.1.1.2).v (soundE x hh h.1.2).v
    · cases h
  | .dpop d k, X, Wx, sc, tp, e, hh, h => by
    rw [wpE]
    unfold chkE at h
    split at h
    · rename_i hc
      obtain ⟨ap, pos, rfl, hb0, hl⟩ := callMt_of hc
      simp only [Bool.and_eq_true] at h
      exact snd_dpop hl h.2 hb0 (soundE d hh h.1.1).v (soundE k hh h.1.2).v
    · cases h
theorem soundEs : ∀ (ir : IEs) {X : Cx} {Wx : WX} {sc : Scope} {tp : Bool} {es : List Expr}, Here C G X Wx sc tp → chkEs C ir sc tp es = true → PA X es (liftA X.K Wx (wpEs G ir)) ∧ noStars es = true
  | .nil, X, Wx, sc, tp, es, hh, h => by
    rw [wpEs]
    cases es with
    | nil => exact ⟨pa_nilL, rfl⟩
    | cons _ _ => simp [chkEs] at h
  | .cons a r, X, Wx, sc, tp, es, hh, h => by
    rw [wpEs]
    cases es with
    | nil => simp [chkEs] at h
    | cons e t =>
      simp only [chkEs, Bool.and_eq_true] at h
      obtain ⟨h1, h2⟩ := soundEs r hh h.2
      exact ⟨pa_consL h.1.1 (soundE a hh h.1.2).v h1, by simp only [noStars, List.all_cons, h.1.1, Bool.true_and]; exact h2⟩
theorem soundPs : ∀ (ir : IEs) (ks : List Key) {X : Cx} {Wx : WX} {sc : Scope} {tp : Bool} {pos : Pos} {keys : List (Option Expr)} {vals : List Expr}, Here C G X Wx sc tp → keysB ks keys = true → keys.length = vals.length → chkEs C ir sc tp vals = true → ∃ trs, PPs X pos keys vals trs ∧ PsOk X Wx ks trs (wpEs G ir)
  | .nil, ks, X, Wx, sc, tp, pos, keys, vals, hh, hk, hn, h => by
    rw [wpEs]
    cases vals with
    | cons _ _ => simp [chkEs] at h
    | nil =>
      cases keys with
      | cons _ _ => cases hn
      | nil =>
        cases ks with
        | nil => exact ⟨[], pps_nil, psOk_nil⟩
        | cons k r => cases (keysB_len hk).1
  | .cons a r, ks, X, Wx, sc, tp, pos, keys, vals, hh, hk, hn, h => by
    rw [wpEs]
    cases vals with
    | nil => simp [chkEs] at h
    | cons e t =>
      simp only [chkEs, Bool.and_eq_true] at h
      unfold keysB at hk
      split at hk
      · cases hn
      · simp only [Bool.and_eq_true, decide_eq_true_eq] at hk
        obtain ⟨rfl, hk⟩ := hk
        obtain ⟨trs, p1, p2⟩ := soundPs r _ (pos := pos) hh hk (by simpa using hn) h.2
        exact ⟨_, pps_cons pe_int (soundE a hh h.1.2).v p1, psOk_cons (k := .inl _) p2⟩
      · simp only [Bool.and_eq_true, decide_eq_true_eq] at hk
        obtain ⟨rfl, hk⟩ := hk
        obtain ⟨trs, p1, p2⟩ := soundPs r _ (pos := pos) hh hk (by simpa using hn) h.2
        exact ⟨_, pps_cons pe_str (soundE a hh h.1.2).v p1, psOk_cons (k := .inr _) p2⟩
      · cases hk
theorem soundO : ∀ (ir : IO) {X : Cx} {Wx : WX} {sc : Scope} {tp : Bool} {e : Option Expr}, Here C G X Wx sc tp → chkO C ir sc tp e = true → PO X e (liftO X.K Wx (wpO G ir))
  | .none, X, Wx, sc, tp, e, hh, h => by
    rw [wpO]
    cases e with
    | none => exact po_noneL
    | some _ => simp [chkO] at h
  | .some a, X, Wx, sc, tp, e, hh, h => by
    rw [wpO]
    cases e with
    | none => simp [chkO] at h
    | some x => exact po_someL (soundE a hh (by simpa [chkO] using h)).v
theorem soundT : ∀ (ir : IT) {X : Cx} {Wx : WX} {sc : Scope} {tp : Bool} {e : Expr}, Here C G X Wx sc tp → chkT C ir sc tp e = true → SndU X Wx e (wpT G ir)
  | .dsp es, X, Wx, sc, tp, e, hh, h => by
    rw [wpT]
    unfold chkT at h
    split at h
    · exact .of (sndT_dsp (soundEs es hh h).1) rfl
    · cases h
  | .cat a b, X, Wx, sc, tp, e, hh, h => by
    rw [wpT]
    unfold chkT at h
    split at h
    · simp only [Bool.and_eq_true] at h
      exact .of (sndT_cat (soundL a hh h.1) (soundL b hh h.2)) rfl
    · cases h
  | .slc a lo hi, X, Wx, sc, tp, e, hh, h => by
    rw [wpT]
    unfold chkT at h
    split at h
    · simp only [Bool.and_eq_true] at h
      exact .of (sndT_slc (soundL a hh h.1.1) (soundO lo hh h.1.2) (soundO hi hh h.2)) rfl
    · cases h
  | .rev a, X, Wx, sc, tp, e, hh, h => by
    rw [wpT]
    unfold chkT at h
    split at h
    · rename_i o x p3 pos
      simp only [Bool.and_eq_true] at h
      have h1 := h.1
      unfold isN1 at h1
      split at h1
      · rename_i i k p1 p2
        have e := of_decide_eq_true h1
        subst e
        exact .of (sndT_rev (soundL a hh h.2)) rfl
      · cases h1
    · cases h
  | .lst a, X, Wx, sc, tp, e, hh, h => by
    rw [wpT]
    unfold chkT at h
    split at h
    · rename_i x hc
      obtain ⟨p, pos, rfl, hg, hpl⟩ := callNm_of hc
      simp only [Bool.and_eq_true] at h
      exact .of (sndT_lst (gl_of hh hg) (hh.m (by decide)) h.2 (soundL a hh h.1)) rfl
    · cases h
  | .srt a, X, Wx, sc, tp, e, hh, h => by
    rw [wpT]
    unfold chkT at h
    split at h
    · rename_i x hc
      obtain ⟨p, pos, rfl, hg, hpl⟩ := callNm_of hc
      simp only [Bool.and_eq_true, Bool.not_eq_true'] at h
      obtain ⟨h, hot⟩ := h
      exact .of (sndT_srt (hh.ok.calm hot) (gl_of hh hg) (hh.m (by decide)) h.2 (soundL a hh h.1)) rfl
    · cases h
  | .srtD a, X, Wx, sc, tp, e, hh, h => by
    rw [wpT]
    unfold chkT at h
    split at h
    · rename_i x hc
      obtain ⟨p, pos, rfl, hg, hpl⟩ := callNm_of hc
      simp only [Bool.and_eq_true, Bool.not_eq_true'] at h
      obtain ⟨h, hot⟩ := h
      exact .of (sndT_srtD (hh.ok.calm hot) hh.ok.hu (gl_of hh hg) (hh.m (by decide)) h.2 (soundL a hh h.1)) rfl
    · cases h
  | .lck t, X, Wx, sc, tp, e, hh, h => by
    rw [wpT]
    unfold chkT at h
    simp only [Bool.and_eq_true] at h
    obtain ⟨h, h2⟩ := h
    split at h2
    · exact .of (sndT_lck (soundT t hh h).t) rfl
    · cases h2
  | .srtd d, X, Wx, sc, tp, e, hh, h => by
    rw [wpT]
    unfold chkT at h
    split at h
    · rename_i x hc
      obtain ⟨p, pos, rfl, hg, hpl⟩ := callNm_of hc
      simp only [Bool.and_eq_true, Bool.not_eq_true'] at h
      obtain ⟨⟨h1, h2⟩, hot⟩ := h
      exact .of (sndT_srtd (hh.ok.calm hot) (gl_of hh hg) (hh.m (by decide)) h2 (soundE d hh h1).v) rfl
    · cases h
  | .sset a, X, Wx, sc, tp, e, hh, h => by
    rw [wpT]
    unfold chkT at h
    split at h
    · rename_i x hc
      obtain ⟨p, pos, rfl, hg, hpl⟩ := callNm_of hc
      split at h
      · rename_i y hc2
        obtain ⟨p2, pos2, rfl, hg2, hpl2⟩ := callNm_of hc2
        simp only [Bool.and_eq_true, Bool.not_eq_true'] at h
        obtain ⟨h, hot⟩ := h
        exact .of (sndT_sset (hh.ok.calm hot) (gl_of hh hg) (hh.m (by decide)) (gl_of hh hg2) (hh.m (by decide)) h.2 (soundL a hh h.1)) rfl
      · cases h
    · cases h
  | .rep a n, X, Wx, sc, tp, e, hh, h => by
    rw [wpT]
    unfold chkT at h
    split at h
    · simp only [Bool.and_eq_true] at h
      exact .of (sndT_rep (soundL a hh h.1) (soundE n hh h.2).v) rfl
    · cases h
  | .comp a g it own, X, Wx, sc, tp, e, hh, h => by
    rw [wpT]
    unfold chkT at h
    split at h
    · rename_i x tg iter scope pos
      simp only [Bool.and_eq_true, Bool.not_eq_true'] at h
      obtain ⟨h, hot⟩ := h
      obtain ⟨⟨⟨⟨⟨h1, h2⟩, h3⟩, h4⟩, h5⟩, h6⟩ := h
      exact sndU_comp (hh.ok.calm hot) hh.ok.nd (soundI it hh h1) h2 (by rw [hh.sc, hh.ok.N]; exact blkOk_by h3) (fun i hi => by have := List.all_eq_true.mp h4 i hi; simpa using this)
        (fun s H Cc cl fp => soundG g (hh.blk hot s H scope Cc cl fp) h5) (fun s H Cc cl fp => (soundE a (hh.blk hot s H scope Cc cl fp) h6).v)
    · cases h
  | .compif a c g it own, X, Wx, sc, tp, e, hh, h => by
    rw [wpT]
    unfold chkT at h
    split at h
    · rename_i x tg iter t scope pos
      simp only [Bool.and_eq_true, Bool.not_eq_true'] at h
      obtain ⟨h, hot⟩ := h
      obtain ⟨⟨⟨⟨⟨⟨h1, h2⟩, h3⟩, h4⟩, h5⟩, h6⟩, h7⟩ := h
      exact sndU_compif (hh.ok.calm hot) hh.ok.nd (soundI it hh h1) h2 (by rw [hh.sc, hh.ok.N]; exact blkOk_by h3) (fun i hi => by have := List.all_eq_true.mp h4 i hi; simpa using this)
        (fun s H Cc cl fp => soundG g (hh.blk hot s H scope Cc cl fp) h5) (fun s H Cc cl fp => (soundE c (hh.blk hot s H scope Cc cl fp) h6).t) (fun s H Cc cl fp => (soundE a (hh.blk hot s H scope Cc cl fp) h7).v)
    · cases h
theorem soundL : ∀ (ir : IL) {X : Cx} {Wx : WX} {sc : Scope} {tp : Bool} {e : Expr}, Here C G X Wx sc tp → chkL C ir sc tp e = true → PE X e (liftL X.K Wx (wpL G ir))
  | .t t, X, Wx, sc, tp, e, hh, h => by
    rw [wpL]
    exact lst_t (soundT t hh h).t.v
  | .of a, X, Wx, sc, tp, e, hh, h => by
    rw [wpL]
    exact lst_of (soundE a hh h).v
theorem soundG : ∀ (ir : IG) {X : Cx} {Wx : WX} {sc : Scope} {tp : Bool} {e : Expr}, Here C G X Wx sc tp → chkG C ir sc tp e = true → PG X e (liftG X.K (gSlots ir) (wpG G ir))
  | .nm i, X, Wx, sc, tp, e, hh, h => by
    rw [wpG, gSlots]
    unfold chkG at h
    split at h
    · simp only [Bool.and_eq_true, decide_eq_true_eq] at h
      exact pg_nmL hh.ok.nd (hh.hN h.1) (loc_of hh h.2).1 (loc_of hh h.2).2
    · cases h
  | .tup gs, X, Wx, sc, tp, e, hh, h => by
    rw [wpG, gSlots]
    unfold chkG at h
    split at h
    · simp only [Bool.and_eq_true, Bool.not_eq_true'] at h
      obtain ⟨h, hot⟩ := h
      obtain ⟨h1, h2, h3⟩ := soundGs gs hh h
      exact pg_tupL (hh.ok.calm hot) h2 h3 h1
    · cases h
  | .sub o i, X, Wx, sc, tp, e, hh, h => by
    rw [wpG, gSlots]
    unfold chkG at h
    split at h
    · simp only [Bool.and_eq_true] at h
      exact pg_subL (by have := hh.ok.hu; omega) h.1.1 (soundE o hh h.1.2).v (soundE i hh h.2).v
    · cases h
  | .slc o lo hi, X, Wx, sc, tp, e, hh, h => by
    rw [wpG, gSlots]
    unfold chkG at h
    split at h
    · simp only [Bool.and_eq_true] at h
      exact pg_slcL (soundE o hh h.1.1).v (soundE lo hh h.1.2).v (soundE hi hh h.2).v
    · cases h
theorem soundGs : ∀ (ir : IGs) {X : Cx} {Wx : WX} {sc : Scope} {tp : Bool} {es : List Expr}, Here C G X Wx sc tp → chkGs C ir sc tp es = true → PGs X es (liftGs X.K (gsSlots ir) (wpGs G ir)) ∧ noStars es = true ∧ es.length = ir.len
  | .nil, X, Wx, sc, tp, es, hh, h => by
    rw [wpGs, gsSlots]
    cases es with
    | nil => exact ⟨pgs_nilL, rfl, rfl⟩
    | cons _ _ => simp [chkGs] at h
  | .cons g r, X, Wx, sc, tp, es, hh, h => by
    rw [wpGs, gsSlots]
    cases es with
    | nil => simp [chkGs] at h
    | cons e t =>
      simp only [chkGs, Bool.and_eq_true] at h
      obtain ⟨h1, h2, h3⟩ := soundGs r hh h.2
      exact ⟨pgs_consL h.1.1 (soundG g hh h.1.2) h1, by simp only [noStars, List.all_cons, h.1.1, Bool.true_and]; exact h2, by simp only [List.length_cons, IGs.len, h3]⟩
theorem soundI : ∀ (ir : II) {X : Cx} {Wx : WX} {sc : Scope} {tp : Bool} {tg e : Expr}, Here C G X Wx sc tp → chkI C ir sc tp tg e = true → PI X tg e (liftI X.K Wx (wpI G ir))
  | .lst l, X, Wx, sc, tp, tg, e, hh, h => by
    rw [wpI]
    exact pi_lstL (soundL l hh h)
  | .rng a, X, Wx, sc, tp, tg, e, hh, h => by
    rw [wpI]
    unfold chkI at h
    split at h
    · rename_i x hc
      obtain ⟨p, pos, rfl, hg, hpl⟩ := callNm_of hc
      simp only [Bool.and_eq_true] at h
      exact pi_rngL (gl_of hh hg) (hh.m (by decide)) h.2 (soundE a hh h.1).v
    · cases h
  | .rng2 a b, X, Wx, sc, tp, tg, e, hh, h => by
    rw [wpI]
    unfold chkI at h
    split at h
    · rename_i x y hc
      obtain ⟨p, pos, rfl, hg, hpl⟩ := callNm_of hc
      simp only [Bool.and_eq_true] at h
      exact pi_rng2L (gl_of hh hg) (hh.m (by decide)) h.1.2 h.2 (soundE a hh h.1.1.1).v (soundE b hh h.1.1.2).v
    · cases h
  | .rngd a b c, X, Wx, sc, tp, tg, e, hh, h => by
    rw [wpI]
    unfold chkI at h
    split at h
    · rename_i x y z hc
      obtain ⟨p, pos, rfl, hg, hpl⟩ := callNm_of hc
      simp only [Bool.and_eq_true] at h
      exact pi_rngdL (gl_of hh hg) (hh.m (by decide)) h.1.1.2 h.1.2 h.2 (soundE a hh h.1.1.1.1.1).v (soundE b hh h.1.1.1.1.2).v (soundE c hh h.1.1.1.2).v
    · cases h
  | .keys d, X, Wx, sc, tp, tg, e, hh, h => by
    rw [wpI]
    unfold chkI at h
    exact pi_keysL (soundE d hh h).v
  | .zip a b, X, Wx, sc, tp, tg, e, hh, h => by
    rw [wpI]
    unfold chkI at h
    simp only [Bool.and_eq_true] at h
    obtain ⟨ht, h⟩ := h
    cases tg <;> first | (simp at ht; done) | skip
    split at h
    · rename_i x y hc
      obtain ⟨p, pos, rfl, hg, hpl⟩ := callNm_of hc
      simp only [Bool.and_eq_true] at h
      exact pi_zipL (gl_of hh hg) (hh.m (by decide)) h.1.2 h.2 (soundL a hh h.1.1.1) (soundL b hh h.1.1.2)
    · cases h
  | .enm a, X, Wx, sc, tp, tg, e, hh, h => by
    rw [wpI]
    unfold chkI at h
    simp only [Bool.and_eq_true] at h
    obtain ⟨ht, h⟩ := h
    cases tg <;> first | (simp at ht; done) | skip
    split at h
    · rename_i x hc
      obtain ⟨p, pos, rfl, hg, hpl⟩ := callNm_of hc
      simp only [Bool.and_eq_true] at h
      exact pi_enmL (gl_of hh hg) (hh.m (by decide)) h.2 (soundL a hh h.1)
    · cases h
end
variable {C : Ctx} {G : Gs}
theorem swNone_fold {ts vs : List Expr} {p1 p2 : Pos} {k1 k2 : Nat} {env : Env} (h : vs.all (foldedForSure 8) = true) : swappedStores [.Tuple ts k1 p1] (.Tuple vs k2 p2) env = pure none := by
  unfold swappedStores
  simp only [h]
  split
  · rfl
  · split
    · rfl
    · split
      · rfl
      · rfl
theorem swOk_of {tg e : Expr} {pos : Pos} {env : Env} (h : swOk tg e = true) (n : isLC e = false) : swapsWithSole [tg] e pos.line env = pure false ∧ swappedStores [tg] e env = pure none := by
  constructor
  · show swapsWith e (some tg) pos.line env = pure false
    cases e <;> first | rfl | (simp [isLC] at n)
  · cases tg <;> first | (simp [swOk] at h; done) | rfl | skip
    · cases e <;> first | rfl | (simp [swOk] at h; done)
    · cases e <;> first | rfl | skip
      exact swNone_fold h
theorem sw_par {x y : Str} {px py pt pt2 : Pos} {kt k2 : Nat} {ea eb : Expr} {env : Env} (h1 : env.kindOf x = some .local) (h2 : env.kindOf y = some .local) (hl : px.line = py.line) (hxy : x ≠ y) (hn : noStars [ea, eb] = true) (hf : (foldedForSure 8 ea && foldedForSure 8 eb) = false) (hc : (constantsAlone 8 ea && constantsAlone 8 eb) = false) :
    swappedStores [.Tuple [.Name x px, .Name y py] kt pt] (.Tuple [ea, eb] k2 pt2) env = if env.blockKind = .function then pure (some [x, y]) else pure none := by
  have hs1 : notStar ea = true := by simp only [noStars, List.all_cons, Bool.and_eq_true] at hn; exact hn.1
  have hs2 : notStar eb = true := by simp only [noStars, List.all_cons, Bool.and_eq_true] at hn; exact hn.2.1
  unfold swappedStores
  by_cases hb : env.blockKind = .function
  · rw [if_pos hb]
    have ed : ([x, y].eraseDups).length = 2 := by
      have hyx : (y == x) = false := by
        cases e : (y == x) with
        | true => exact (hxy (eq_of_beq e).symm).elim
        | false => rfl
      simp [List.eraseDups_cons, List.filter_cons, hyx]
    have c1 : ((env.kindOf x == some NameKind.local) && (px.line == px.line)) = true := by rw [h1]; simp
    have c2 : ((env.kindOf y == some NameKind.local) && (py.line == px.line)) = true := by rw [h2, hl]; simp
    have hb2 : (env.blockKind != ScopeKind.function) = false := by rw [hb]; rfl
    simp only [List.length_cons, List.length_nil, Nat.zero_add, Nat.reduceAdd, beq_self_eq_true, Bool.true_or, Bool.not_true, bne_self_eq_false, Bool.false_or, hb2, Bool.false_eq_true, if_false, List.any_cons, List.any_nil, Bool.or_false, List.head?_cons, Option.map_some, Option.getD_some, List.all_cons, List.all_nil, Bool.and_true, hf, hc]
    split
    · rename_i e1
      simp [notStar] at hs1
    split
    · rename_i e1
      simp [notStar] at hs2
    have p1 : (Expr.Name x px).pos = px := rfl
    simp only [p1, List.filterMap_cons, c1, c2, List.filterMap_nil, if_true, Bool.or_false, Bool.false_eq_true, if_false, List.length_cons, List.length_nil, Nat.zero_add, Nat.reduceAdd, bne_self_eq_false, Bool.false_or, ed]
  · rw [if_neg hb]
    have : (env.blockKind != .function) = true := by simp [hb]
    simp [this]
theorem sw_par0 {x y : Str} {px py pt pt2 : Pos} {kt k2 : Nat} {ea eb : Expr} {env : Env} (h : ¬ (env.kindOf x = some .local ∧ env.kindOf y = some .local)) (hn1 : notStar ea = true) (hn2 : notStar eb = true) :
    swappedStores [.Tuple [.Name x px, .Name y py] kt pt] (.Tuple [ea, eb] k2 pt2) env = pure none := by
  unfold swappedStores
  by_cases hb : env.blockKind = .function
  · have hb2 : (env.blockKind != ScopeKind.function) = false := by rw [hb]; rfl
    have c0 : ((env.kindOf x == some NameKind.local && px.line == px.line) = true ∧ (env.kindOf y == some NameKind.local && py.line == px.line) = true) → False := fun ⟨e1, e2⟩ => by
      rw [Bool.and_eq_true] at e1 e2
      exact h ⟨eq_of_beq e1.1, eq_of_beq e2.1⟩
    simp only [List.length_cons, List.length_nil, Nat.zero_add, Nat.reduceAdd, beq_self_eq_true, Bool.true_or, Bool.not_true, bne_self_eq_false, Bool.false_or, hb2, Bool.false_eq_true, if_false, List.any_cons, List.any_nil, Bool.or_false, List.head?_cons, Option.map_some, Option.getD_some, List.all_cons, List.all_nil, Bool.and_true]
    split
    · rename_i e1
      simp [notStar] at hn1
    split
    · rename_i e1
      simp [notStar] at hn2
    have p1 : (Expr.Name x px).pos = px := rfl
    simp only [p1, List.filterMap_cons, List.filterMap_nil]
    cases e1 : (env.kindOf x == some NameKind.local && px.line == px.line) <;> cases e2 : (env.kindOf y == some NameKind.local && py.line == px.line) <;> first | exact (c0 ⟨e1, e2⟩).elim | simp
  · have : (env.blockKind != .function) = true := by simp [hb]
    simp [this]
theorem mat_of {ir : IE} {X : Cx} {Wx : WX} {sc : Scope} {e : Expr} (hh : Here C G X Wx sc true) (h : chkE C ir sc true e = true) (hl : isLC e = true) : ∃ t, ir = .mat t ∧ chkT C t sc true e = true := by
  cases e <;> first | (simp [isLC] at hl; done) | skip
  all_goals
    cases ir <;> first
      | exact ⟨_, rfl, h⟩
      | (simp [chkE, callNm, callMt, cstB] at h; done)
      | (exfalso; simp only [chkE] at h; split at h <;> simp [callNm, callMt] at h; done)
      | (exfalso; rename_i w; cases w <;> simp [chkE, cstB, foldC] at h; done)
theorem callMsg_of {e : Expr} {x : Str} (h : callMsg e = some x) : ∃ p m j p2 p3, e = .Call (.Name x p) [.Constant (.str m) j p2] [] p3 := by
  unfold callMsg at h
  split at h
  · cases h; exact ⟨_, _, _, _, _, rfl⟩
  · cases h
theorem kind_of {X : Cx} {Wx : WX} {sc : Scope} {tp : Bool} (hh : Here C G X Wx sc tp) {x : Str} (h : stoB false sc x = true) : X.env.kindOf x = some .local := by
  unfold stoB at h
  unfold Env.kindOf
  rw [hh.sc]
  split at h
  · assumption
  · cases h
  · cases h
theorem Here.tr {X : Cx} {Wx : WX} {sc : Scope} (hh : Here C G X Wx sc true) (hhot : C.hot = false) (W : WX) (pn : List (Addr × Obj)) (xe : Value → Shared → Prop) (tk : Takes (X.tr pn xe) W) (po : PassesOwn (model X.prog X.w) X.A X.env xe) : Here C G (X.tr pn xe) W sc true where
  ok := {
    N := hh.ok.N
    calm := hh.ok.calm
    nd := hh.ok.nd
    un := hh.ok.un
    room := hh.ok.room
    hxs := hh.ok.hxs
    mth := hh.ok.mth
    mks := hh.ok.mks
    fld := hh.ok.fld
    exc := fun c x h => let e := hh.ok.exc c x h; ⟨e.glo, e.xin, e.kp, e.bs, e.ty, e.exc, e.ve⟩
    exm := hh.ok.exm
    exs := hh.ok.exs
    gls := hh.ok.gls
    hx0 := hh.ok.hx0
    hx := fun a n h => by rw [hh.ok.hx0 hhot] at h; cases h
    takes := tk
    po := po
    fns := hh.ok.fns
    blt := hh.ok.blt }
  sc := hh.sc
  fn := hh.fn
  up := hh.up
theorem Here.suite {X : Cx} {Wx : WX} {sc : Scope} (hh : Here C G X Wx sc true) (hhot : C.hot = false) {a : Addr} {oe : Obj} {n : Nat} {pn : List (Addr × Obj)} (hn : n ∈ G.ex) (hz : Zc (.ref (G.cl n)) none oe) (hd : ∃ vs, oe.data = .fields vs) :
    Here { C with hot := true } { G with hx := some (a, n) } (X.suite a ((a, oe) :: pn)) noW sc true where
  ok := {
    N := hh.ok.N
    calm := fun h => by cases h
    nd := hh.ok.nd
    un := hh.ok.un
    room := fun h => by cases h
    hxs := fun _ => ⟨_, _, rfl⟩
    mth := fun _ _ _ _ h => by cases h
    mks := fun _ _ _ _ h => by cases h
    fld := hh.ok.fld
    exc := fun c x h => let e := hh.ok.exc c x h; ⟨e.glo, e.xin, e.kp, e.bs, e.ty, e.exc, e.ve⟩
    exm := hh.ok.exm
    exs := hh.ok.exs
    gls := hh.ok.gls
    hx0 := fun h => by cases h
    hx := fun a' n' h => by
      cases h
      obtain ⟨x, hx⟩ := hh.ok.exs n hn
      exact ⟨⟨x, hx⟩, call_isE (hh.ok.exc n x hx).exc hz hd, call_isET (hh.ok.exc n x hx).exc hz hd⟩
    takes := fun _ _ x => by
      obtain ⟨_, _, _, _, _, _, _, _, _, _, _, _, _, _, _, _, z⟩ := x
      exact z.elim
    po := PassesOwn.never
    fns := fun _ _ _ h => by cases h
    blt := hh.ok.blt }
  sc := hh.sc
  fn := hh.fn
  up := fun _ => .inr rfl
mutual
theorem soundS : ∀ (ir : IS) {C : Ctx} {G : Gs} {X : Cx} {Wx : WX} {sc : Scope} {s : Stmt}, Here C G X Wx sc true → chkS C ir sc s = true → PS X s (liftS X.K Wx (wpS G ir))
  | .set i e, C, G, X, Wx, sc, s, hh, h => by
    rw [wpS]
    unfold chkS at h
    split at h
    · rename_i y py v pos
      simp only [Bool.and_eq_true, decide_eq_true_eq] at h
      obtain ⟨⟨h1, h2⟩, h3⟩ := h
      by_cases hl : isLC v = true
      · obtain ⟨t, rfl, ht⟩ := mat_of hh h3 hl
        have hU := soundT t hh ht
        cases v <;> first | (simp [isLC] at hl; done) | skip
        · rename_i elt gs scope lpos
          by_cases hb : (X.env.blockKind == .function && X.env.kindOf y == some .local && py.line == lpos.line && !(scope.names.any fun (n, k) => n == y && (k == .local || k == .cell))) = true
          · have hsw : swapsWith (.ListComp elt gs scope lpos) (some (.Name y py)) pos.line X.env = pure true := by
              show (pure (X.env.blockKind == .function && X.env.kindOf y == some .local && py.line == lpos.line && !(scope.names.any fun (n, k) => n == y && (k == .local || k == .cell))) : Sem Bool) = _
              rw [hb]
            have hy : X.env.scope.names.lookup y = some .local := by
              simp only [Bool.and_eq_true, beq_iff_eq] at hb
              exact hb.1.1.2
            have z := ps_set_lc (hU.s rfl i y py pos (hh.hN h1) hy hsw)
            rw [wpE]
            exact z
          · have hsw : swapsWith (.ListComp elt gs scope lpos) (some (.Name y py)) pos.line X.env = pure false := by
              show (pure (X.env.blockKind == .function && X.env.kindOf y == some .local && py.line == lpos.line && !(scope.names.any fun (n, k) => n == y && (k == .local || k == .cell))) : Sem Bool) = _
              rw [Bool.eq_false_iff.mpr hb]
            exact ps_set_plain hh.ok.nd (hh.hN h1) (loc_of hh h2).1 (loc_of hh h2).2 hsw (soundE (.mat t) hh h3).v
        all_goals (exfalso; cases t <;> (simp [chkT, callNm] at ht))
      · exact ps_set_plain hh.ok.nd (hh.hN h1) (loc_of hh h2).1 (loc_of hh h2).2 (sw_none (by simpa using hl)) (soundE e hh h3).v
    · cases h
  | .asg g e, C, G, X, Wx, sc, s, hh, h => by
    rw [wpS]
    unfold chkS at h
    split at h
    · simp only [Bool.and_eq_true, Bool.not_eq_true'] at h
      obtain ⟨⟨⟨⟨h1, h2⟩, h3⟩, h4⟩, h5⟩ := h
      exact ps_asgL h3 (swOk_of h1 h2).1 (swOk_of (pos := ⟨0, 0, 0, 0⟩) h1 h2).2 (soundE e hh h5).v (soundG g hh h4)
    · cases h
  | .par i j a b, C, G, X, Wx, sc, s, hh, h => by
    rw [wpS]
    unfold chkS at h
    split at h
    · rename_i x px y py kt pt ea eb k2 pt2 pos
      simp only [Bool.and_eq_true, decide_eq_true_eq, Bool.not_eq_true', beq_iff_eq] at h
      obtain ⟨⟨⟨⟨⟨⟨⟨⟨h1, h2⟩, h3⟩, h6⟩, h7⟩, h8⟩, h9⟩, hA⟩, hB⟩ := h
      obtain ⟨pa, ns⟩ := soundEs (.cons a (.cons b .nil)) hh h9
      have hxy : x ≠ y := fun e => by rw [e, beq_self_eq_true] at h3; cases h3
      by_cases hk : (sc.names.lookup x = some .local ∧ sc.names.lookup y = some .local) ∧ X.env.blockKind = .function
      · obtain ⟨⟨h4, h5⟩, hb⟩ := hk
        have k1 : X.env.kindOf x = some .local := by unfold Env.kindOf; rw [hh.sc]; exact h4
        have k2' : X.env.kindOf y = some .local := by unfold Env.kindOf; rw [hh.sc]; exact h5
        have hsw := sw_par (kt := kt) (pt := pt) (k2 := k2) (pt2 := pt2) k1 k2' h6 hxy ns h7 h8
        rw [if_pos hb] at hsw
        have hc : X.calm = true := hh.ok.calm (by
          unfold chkG at hA
          simp only [Bool.and_eq_true, Bool.not_eq_true'] at hA
          exact hA.2)
        have hij : i ≠ j := fun e => hxy (by rw [e, h2] at h1; exact (Option.some.inj h1).symm)
        refine ps_weak (ps_par hc hh.ok.nd (hh.hN h1) (hh.hN h2) hij (by rw [hh.sc]; exact h4) (by rw [hh.sc]; exact h5) pa hsw) fun D Z H ⟨σ, S, E, g, hm, pnx, prt, pbk, pct, pex⟩ => ?_
        refine ⟨σ, S, fun ws S' => match ws with
          | [x, y] => E.nx ((σ.set i (some x)).set j (some y)) S'
          | _ => False, E.ex σ, g, by simp only [wpEs]; exact hm, fun ws S' vs H' q g' e r => ?_, fun C S' H' q g' e => pex σ C S' Z H' q g' e⟩
        match ws, q with
        | [u, v], q =>
          cases r with
          | cons r1 r =>
            cases r with
            | cons r2 r =>
              cases r
              exact ⟨_, _, rfl, pnx _ _ _ _ q ((g'.set r1 i).set r2 j) e⟩
      · have hsw : swappedStores [.Tuple [.Name x px, .Name y py] kt pt] (.Tuple [ea, eb] k2 pt2) X.env = pure none := by
          by_cases hl : sc.names.lookup x = some .local ∧ sc.names.lookup y = some .local
          · have k1 : X.env.kindOf x = some .local := by unfold Env.kindOf; rw [hh.sc]; exact hl.1
            have k2' : X.env.kindOf y = some .local := by unfold Env.kindOf; rw [hh.sc]; exact hl.2
            have hsw := sw_par (kt := kt) (pt := pt) (k2 := k2) (pt2 := pt2) k1 k2' h6 hxy ns h7 h8
            rw [if_neg (fun hb => hk ⟨hl, hb⟩)] at hsw
            exact hsw
          · have hs1 : notStar ea = true := by simp only [noStars, List.all_cons, Bool.and_eq_true] at ns; exact ns.1
            have hs2 : notStar eb = true := by simp only [noStars, List.all_cons, Bool.and_eq_true] at ns; exact ns.2.1
            refine sw_par0 (fun hz => hl ?_) hs1 hs2
            unfold Env.kindOf at hz
            rw [hh.sc] at hz
            exact hz
        have pg := soundG (.tup (.cons (.nm i) (.cons (.nm j) .nil))) hh hA
        have pe := soundE (.tup (.cons a (.cons b .nil))) hh hB
        have ps := ps_asgL (pos := pos) (by rfl) (by rfl) hsw pe.v pg
        refine ps_weak ps fun D Z H ⟨σ, S, E, g, hm, pnx, prt, pbk, pct, pex⟩ => ⟨σ, S, E, g, ?_, pnx, prt, pbk, pct, pex⟩
        have z2 : 2 ≤ sizeLine := by decide
        simp only [wpE, wpEs, wpG, wpGs, List.length_cons, List.length_nil, IGs.len, Nat.zero_add, Nat.reduceAdd, z2, true_and]
        exact hm
    · cases h
  | .aug i op e, C, G, X, Wx, sc, s, hh, h => by
    rw [wpS]
    unfold chkS at h
    split at h
    · simp only [Bool.and_eq_true, decide_eq_true_eq] at h
      obtain ⟨⟨⟨h1, h2⟩, h3⟩, h4⟩ := h
      exact ps_augL h1 hh.ok.nd (hh.hN h2) (loc_of hh h3).1 (loc_of hh h3).2 (soundE e hh h4).v
    · cases h
  | .exp e, C, G, X, Wx, sc, s, hh, h => by
    rw [wpS]
    unfold chkS at h
    split at h
    · simp only [Bool.and_eq_true, Bool.not_eq_true'] at h
      exact ps_expL h.1 (soundE e hh h.2).v
    · cases h
  | .ret e, C, G, X, Wx, sc, s, hh, h => by
    rw [wpS]
    unfold chkS at h
    split at h
    · exact ps_retL (soundE e hh h).v
    · cases h
  | .retN, C, G, X, Wx, sc, s, hh, h => by
    rw [wpS]
    unfold chkS at h
    split at h
    · exact ps_retNL
    · cases h
  | .pas, C, G, X, Wx, sc, s, hh, h => by
    rw [wpS]
    unfold chkS at h
    split at h
    · exact ps_pasL
    · cases h
  | .brk, C, G, X, Wx, sc, s, hh, h => by
    rw [wpS]
    unfold chkS at h
    split at h
    · exact ps_brkL
    · cases h
  | .cnt, C, G, X, Wx, sc, s, hh, h => by
    rw [wpS]
    unfold chkS at h
    split at h
    · exact ps_cntL
    · cases h
  | .iff c a b, C, G, X, Wx, sc, s, hh, h => by
    rw [wpS]
    unfold chkS at h
    split at h
    · simp only [Bool.and_eq_true] at h
      exact ps_iffL (soundE c hh h.1.1).t (soundSs a hh h.1.2) (soundSs b hh h.2)
    · cases h
  | .whl c b, C, G, X, Wx, sc, s, hh, h => by
    rw [wpS]
    unfold chkS at h
    split at h
    · simp only [Bool.and_eq_true] at h
      exact ps_whlL hh.ok.po (soundE c hh h.1).t (soundSs b hh h.2)
    · cases h
  | .for g it b, C, G, X, Wx, sc, s, hh, h => by
    rw [wpS]
    unfold chkS at h
    split at h
    · simp only [Bool.and_eq_true, Bool.not_eq_true'] at h
      obtain ⟨h, hot⟩ := h
      exact ps_forL hh.ok.po (hh.ok.calm hot) h.1.1.1 (soundI it hh h.1.1.2) (soundG g hh h.1.2) (soundSs b hh h.2)
    · cases h
  | .ford g i b, C, G, X, Wx, sc, s, hh, h => by
    rw [wpS]
    unfold chkS at h
    split at h
    · simp only [Bool.and_eq_true, Bool.not_eq_true'] at h
      obtain ⟨⟨⟨h1, h2⟩, h3⟩, hot⟩ := h
      exact ps_fordL hh.ok.po (hh.ok.calm hot) (by
        have key : ∀ y p, nmB C sc i y = true → PE X (.Name y p) (liftE X.K Wx (wpE G (.var i))) := fun y p hz => (soundE (.var i) hh (e := .Name y p) hz).v
        rw [wpE] at key
        exact key _ _ h1) (soundG g hh h2) (soundSs b hh h3)
    · cases h
  | .sfl c o f e, C, G, X, Wx, sc, s, hh, h => by
    rw [wpS]
    unfold chkS at h
    split at h
    · simp only [Bool.and_eq_true, decide_eq_true_eq, List.contains_eq_mem] at h
      obtain ⟨⟨⟨rfl, h1⟩, h2⟩, h3⟩ := h
      obtain ⟨hc, hn⟩ := hh.ok.fld c _ h1
      exact ps_sflL hc hn (soundE o hh h2).v (soundE e hh h3).v
    · cases h
  | .rse c, C, G, X, Wx, sc, s, hh, h => by
    rw [wpS]
    unfold chkS at h
    split at h
    · split at h
      · rename_i x hx
        obtain ⟨p, m, j, p2, p3, rfl⟩ := callMsg_of hx
        simp only [Bool.and_eq_true, List.contains_eq_mem, decide_eq_true_eq, Bool.not_eq_true'] at h
        obtain ⟨⟨⟨hot, h1⟩, h2⟩, h3⟩ := h
        have F := hh.ok.exc c x h1
        exact ps_weak (ps_rseL (hh.ok.calm hot) hh.ok.takes F (gl_of hh h2) h3) fun D Z H ⟨σ, S, E, g, q, k1, k2, k3, k4, k5⟩ => ⟨σ, S, E, g, q.2, k1, k2, k3, k4, k5⟩
      · cases h
    · cases h
  | .tryO b c s, C, G, X, Wx, sc, st, hh, h => by
    unfold chkS at h
    split at h
    · simp only [Bool.and_eq_true, List.contains_eq_mem, decide_eq_true_eq, Bool.not_eq_true'] at h
      obtain ⟨⟨⟨⟨⟨hot, h1⟩, h2⟩, h3⟩, h4⟩, h5⟩ := h
      have F := hh.ok.exc c _ h1
      have up := (hh.up rfl).resolve_right (by rw [hot]; exact Bool.false_ne_true)
      exact ps_tryOL up.1 up.2 ⟨gl_of hh h2, plain_dbg h3, .inl F.glo⟩ hh.ok.takes (fun n hn => let ⟨x, hx⟩ := hh.ok.exs n hn; (hh.ok.exm n x c _ hx h1).1)
        (fun W pn xe tk po => soundSs b (hh.tr hot W pn xe tk po) h4) (fun a oe n pn hn hz hd => soundSs s (hh.suite hot hn hz hd) h5)
    · cases h
  | .tryA b c i s, C, G, X, Wx, sc, st, hh, h => by
    unfold chkS at h
    split at h
    · simp only [Bool.and_eq_true, List.contains_eq_mem, decide_eq_true_eq, Bool.not_eq_true'] at h
      obtain ⟨⟨⟨⟨⟨⟨⟨hot, h1⟩, h2⟩, h3⟩, h6⟩, h7⟩, h4⟩, h5⟩ := h
      have F := hh.ok.exc c _ h1
      have up := (hh.up rfl).resolve_right (by rw [hot]; exact Bool.false_ne_true)
      exact ps_tryAL up.1 up.2 hh.ok.nd (hh.hN h6) (kind_of hh h7) ⟨gl_of hh h2, plain_dbg h3, .inl F.glo⟩ hh.ok.takes (fun n hn => let ⟨x, hx⟩ := hh.ok.exs n hn; (hh.ok.exm n x c _ hx h1).1)
        (fun W pn xe tk po => soundSs b (hh.tr hot W pn xe tk po) h4) (fun a oe n pn hn hz hd => soundSs s (hh.suite hot hn hz hd) h5)
    · cases h
theorem soundSs : ∀ (ir : ISs) {C : Ctx} {G : Gs} {X : Cx} {Wx : WX} {sc : Scope} {ss : List Stmt}, Here C G X Wx sc true → chkSs C ir sc ss = true → PSs X ss (liftS X.K Wx (wpSs G ir))
  | .nil, C, G, X, Wx, sc, ss, hh, h => by
    rw [wpSs]
    cases ss with
    | nil => exact pss_nilL
    | cons _ _ => simp [chkSs] at h
  | .cons s r, C, G, X, Wx, sc, ss, hh, h => by
    rw [wpSs]
    cases ss with
    | nil => simp [chkSs] at h
    | cons t u =>
      simp only [chkSs, Bool.and_eq_true] at h
      exact pss_consL (soundS s hh h.1) (soundSs r hh h.2)
end
def Fns (P : Program) (w : World) (K : PySem.W.Frag) (mg : Str → Option Value) (base : Heap) (G : Gs) (fns : List (Nat × Str)) (k : Nat) : Prop :=
  ∀ i x, fns.lookup i = some x → ∃ k' f fd ps, k' ≤ k ∧ FnOk P w K mg base (L2.CX P w) k' f fd ps (liftSp K (G i)) ∧ mg x = some (.ref f) ∧ PySem.W.keepIn K (.ref f) = true ∧ Binds K fd ps []
theorem Fns.nil {P : Program} {w : World} {K : PySem.W.Frag} {mg : Str → Option Value} {base : Heap} {G : Gs} : Fns P w K mg base G [] 0 := fun i x h => by cases h
theorem Fns.cons {P : Program} {w : World} {K : PySem.W.Frag} {mg : Str → Option Value} {base : Heap} {G : Gs} {fns : List (Nat × Str)} {k i : Nat} {x : Str} {f : Addr} {fd : FuncData} {ps : List Str} {m : MSp} (h : Fns P w K mg base G fns k)
    (F : FnOk P w K mg base (L2.CX P w) (k + 1) f fd ps (liftSp K m)) (hG : G i = m) (hm : mg x = some (.ref f)) (hk : PySem.W.keepIn K (.ref f) = true) (hb : Binds K fd ps []) : Fns P w K mg base G ((i, x) :: fns) (k + 1) := fun j y e => by
  rw [List.lookup_cons] at e
  split at e
  · rename_i hj
    have hj' := eq_of_beq hj
    subst hj'
    cases e
    exact ⟨k + 1, f, fd, ps, Nat.le_refl _, by rw [hG]; exact F, hm, hk, hb⟩
  · obtain ⟨k', f', fd', ps', hk', h1, h2, h3, h4⟩ := h j y e
    exact ⟨k', f', fd', ps', Nat.le_succ_of_le hk', h1, h2, h3, h4⟩
theorem start_gd {K : PySem.W.Frag} {S : Sto} {H : Hp} {ws : List W} {vs : List V} {N : List Str} (g : StOk K S H) (r : RepWs K H ws vs) (hl : ws.length ≤ N.length) : Gd K (ws.map some ++ List.replicate (N.length - ws.length) none) S (L2.start N vs) H where
  len := by
    unfold L2.start
    simp only [List.length_append, List.length_map, List.length_replicate, r.length]
  sl := fun i w e => by
    unfold L2.start
    by_cases hi : i < ws.length
    · rw [List.getElem?_append_left (by simpa using hi), List.getElem?_map] at e
      cases ew : ws[i]? with
      | none => rw [ew] at e; cases e
      | some w' =>
        rw [ew] at e; cases e
        obtain ⟨v, hv, rv⟩ := r.get ew
        refine ⟨v, ?_, rv⟩
        rw [List.getElem?_append_left (by rw [List.length_map, ← r.length]; exact hi), List.getElem?_map, hv]; rfl
    · rw [List.getElem?_append_right (by simpa using Nat.le_of_not_lt hi), List.getElem?_replicate] at e
      split at e <;> cases e
  st := g
structure ExF (K : PySem.W.Frag) (mg : Str → Option Value) (D : Addr) (x : Str) : Prop where
  glo : mg x = some (.ref D)
  xin : PySem.W.excIn K D He.veBase "ValueError.__new__" = true
  kp : PySem.W.keepIn K (.ref D) = true
  bs : PySem.W.subIn K (.ref D) (.type "BaseException") = some true
  ty : PySem.W.typeIn K (.ref D) = some (.type "type")
  exc : ExcC K D
  ve : PySem.W.kitOne K (.ref D) (.type "ValueError") = some true
structure Knows (P : Program) (w : World) (K : PySem.W.Frag) (mg : Str → Option Value) (base : Heap) (G : Gs) (C : Ctx) (k : Nat) : Prop where
  hot : C.hot = false
  fns : Fns P w K mg base G C.fns k
  mth : ∀ f c m, (f, c, m) ∈ C.mth → ∃ k' fa fd ps, k' ≤ k ∧ FnOk P w K mg base (L2.CX P w) k' fa fd ps (liftSp K (G f)) ∧ Cls K (G.cl c) ∧ Meth K (G.cl c) m fa ∧ Binds K fd ps []
  mks : ∀ f c x, (f, c, x) ∈ C.mks → ∃ k' fa fd ps, k' + 1 ≤ k ∧ FnOk P w K mg base (L2.CX P w) k' fa fd ps (liftSp K (G f)) ∧ Mk K (G.cl c) fa ∧ mg x = some (.ref (G.cl c)) ∧ Binds K fd ps []
  fld : ∀ c f, (c, f) ∈ C.fld → Cls K (G.cl c) ∧ NoAttr K (G.cl c) f
  exc : ∀ c x, (c, x) ∈ C.exc → ExF K mg (G.cl c) x
  exm : ∀ c x d y, (c, x) ∈ C.exc → (d, y) ∈ C.exc → PySem.W.exmOne K (.ref (G.cl c)) (.ref (G.cl d)) = some (subX c d) ∧ PySem.W.kitOne K (.ref (G.cl c)) (.ref (G.cl d)) = some (subX c d)
  exs : ∀ n ∈ G.ex, ∃ x, (n, x) ∈ C.exc
  gls : ∀ x k, (x, k) ∈ C.gls → ∃ u, mg x = some u ∧ RelV (kV k) u
  hx : G.hx = none
section
variable {P : Program} {w : World} {K : PySem.W.Frag} {mg : Str → Option Value} {base : Heap} {G : Gs} {C : Ctx} {k : Nat}
theorem Knows.nil (hx : G.hx = none) (ex : G.ex = []) : Knows P w K mg base G { N := [], fns := [] } 0 where
  hot := rfl
  fns := Fns.nil
  mth := fun _ _ _ z => by cases z
  mks := fun _ _ _ z => by cases z
  fld := fun _ _ z => by cases z
  exc := fun _ _ z => by cases z
  exm := fun _ _ _ _ z => by cases z
  exs := fun n z => by rw [ex] at z; cases z
  gls := fun _ _ z => by cases z
  hx := hx
theorem Knows.fn {i : Nat} {x : Str} {f : Addr} {fd : FuncData} {ps : List Str} {m : MSp} (h : Knows P w K mg base G C k) (F : FnOk P w K mg base (L2.CX P w) (k + 1) f fd ps (liftSp K m)) (hG : G i = m) (hm : mg x = some (.ref f))
    (hk : PySem.W.keepIn K (.ref f) = true) (hb : Binds K fd ps []) : Knows P w K mg base G { C with fns := (i, x) :: C.fns } (k + 1) where
  hot := h.hot
  fns := h.fns.cons F hG hm hk hb
  mth := fun f c m z => by obtain ⟨k', a, b, c, l, r⟩ := h.mth f c m z; exact ⟨k', a, b, c, by omega, r⟩
  mks := fun f c m z => by obtain ⟨k', a, b, c, l, r⟩ := h.mks f c m z; exact ⟨k', a, b, c, by omega, r⟩
  fld := h.fld
  exc := h.exc
  exm := h.exm
  exs := h.exs
  gls := h.gls
  hx := h.hx
theorem Knows.up (h : Knows P w K mg base G C k) : Knows P w K mg base G C (k + 1) where
  hot := h.hot
  fns := fun i x e => by obtain ⟨k', a, b, c, l, r⟩ := h.fns i x e; exact ⟨k', a, b, c, by omega, r⟩
  mth := fun f c m z => by obtain ⟨k', a, b, c, l, r⟩ := h.mth f c m z; exact ⟨k', a, b, c, by omega, r⟩
  mks := fun f c m z => by obtain ⟨k', a, b, c, l, r⟩ := h.mks f c m z; exact ⟨k', a, b, c, by omega, r⟩
  fld := h.fld
  exc := h.exc
  exm := h.exm
  exs := h.exs
  gls := h.gls
  hx := h.hx
theorem Knows.meth {i c : Nat} {m : Str} {f : Addr} {fd : FuncData} {ps : List Str} {sp : MSp} (h : Knows P w K mg base G C k) (F : FnOk P w K mg base (L2.CX P w) (k + 1) f fd ps (liftSp K sp)) (hG : G i = sp) (hc : Cls K (G.cl c)) (hm : Meth K (G.cl c) m f)
    (hb : Binds K fd ps []) : Knows P w K mg base G { C with mth := (i, c, m) :: C.mth } (k + 1) :=
  { h.up with
    mth := fun f' c' m' z => by
      rcases List.mem_cons.mp z with e | e
      · cases e; exact ⟨k + 1, f, fd, ps, Nat.le_refl _, by rw [hG]; exact F, hc, hm, hb⟩
      · exact h.up.mth f' c' m' e }
theorem Knows.mk' {i c : Nat} {x : Str} {f : Addr} {fd : FuncData} {ps : List Str} {sp : MSp} (h : Knows P w K mg base G C k) (F : FnOk P w K mg base (L2.CX P w) (k + 1) f fd ps (liftSp K sp)) (hG : G i = sp) (hc : Mk K (G.cl c) f) (hm : mg x = some (.ref (G.cl c)))
    (hb : Binds K fd ps []) : Knows P w K mg base G { C with mks := (i, c, x) :: C.mks } (k + 2) :=
  { h.up.up with
    mks := fun f' c' m' z => by
      rcases List.mem_cons.mp z with e | e
      · cases e; exact ⟨k + 1, f, fd, ps, Nat.le_refl _, by rw [hG]; exact F, hc, hm, hb⟩
      · exact h.up.up.mks f' c' m' e }
end
theorem fn_sound {P : Program} {w : World} {K : PySem.W.Frag} {mg : Str → Option Value} {base : Heap} {x qual : Str} {params : Arguments} {body : List Stmt} {scope : Scope} {f : Addr} {fd : FuncData} {N ps : List Str} {k : Nat} {G : Gs} {C : Ctx}
    (F : FunD K x qual params body scope [] [] f fd) (S : FnScope N ps scope) (ir : ISs) (hchk : chkSs { C with N := N } ir scope body = true) (hC : Knows P w K mg base G C k) (blt : ∀ x ∈ bltNames, mg x = none) (m : MSp)
    (hm : ∀ ws T Q X, m ws T Q X → ws.length = ps.length ∧ wpF G N.length ir ws T Q X) : FnOk P w K mg base (L2.CX P w) (k + 1) f fd ps (liftSp K m) := by
  refine F.ok S (fun vs H Q E h => ?_) (fun cdv A outer s H vs Q E hr h => ?_)
  · obtain ⟨ws, T, MQ, MX, r, g, hw, _⟩ := h
    rw [← r.length]; exact (hm _ _ _ _ hw).1
  · obtain ⟨ws, T, MQ, MX, r, g, hw, hq, hx⟩ := h
    obtain ⟨hl, hw⟩ := hm _ _ _ _ hw
    have ok : XOk { C with N := N } G (cxOf (L2.CX P w) P w K mg base N qual scope f cdv A outer s H E) (fun cls d _ H => E cls d H) := {
      N := rfl
      calm := fun _ => rfl
      nd := S.nd
      room := fun _ => hr.mono (Nat.zero_le _)
      un := hr.units
      hxs := fun z => by rw [hC.hot] at z; cases z
      mth := fun f' c' m' z _ => by
        obtain ⟨k', fa, fd', ps', hk, h1, h2, h3, h4⟩ := hC.mth f' c' m' z
        exact ⟨k', fa, fd', ps', h1, hr.mono hk, h2, h3, h4⟩
      mks := fun f' c' m' z _ => by
        obtain ⟨k', fa, fd', ps', hk, h1, h2, h3, h4⟩ := hC.mks f' c' m' z
        exact ⟨k', fa, fd', ps', h1, hr.mono hk, h2, h3, h4⟩
      fld := hC.fld
      exc := fun c x z => let e := hC.exc c x z; ⟨e.glo, e.xin, e.kp, e.bs, e.ty, e.exc, e.ve⟩
      exm := hC.exm
      exs := hC.exs
      gls := hC.gls
      hx0 := fun _ => hC.hx
      hx := fun a n z => by rw [hC.hx] at z; cases z
      takes := takes_of rfl rfl rfl rfl
      po := passes_of rfl
      fns := fun i x hi _ => by
        obtain ⟨k', f', fd', ps', hk, h1, h2, h3, h4⟩ := hC.fns i x hi
        exact ⟨k', f', fd', ps', h1, hr.mono hk, h2, h3, h4⟩
      blt := blt }
    have hN : ws.length ≤ N.length := by
      rw [hl, ← S.pre]
      exact List.length_take_le' _ _
    refine ⟨_, soundSs ir ⟨ok, rfl, fun _ _ => rfl, fun _ => .inl ⟨rfl, rfl⟩⟩ hchk, ?_⟩
    refine ⟨_, T, _, start_gd g r hN, hw, ?_, ?_, fun _ _ _ _ z => z.elim, fun _ _ _ _ z => z.elim, ?_⟩
    · rintro σ' S' Z' H' ⟨S2, sub, q⟩ g' e'
      exact hq _ _ _ _ q (g'.st.sub sub) (e'.trans (Ext.sub sub)) .non
    · rintro w' S' v H' ⟨S2, sub, q⟩ s' e' r'
      exact hq _ _ _ _ q (s'.sub sub) (e'.trans (Ext.sub sub)) r'
    · rintro σ' Cc S' Z' H' ⟨S2, sub, q⟩ g' e'
      exact hx _ _ _ q (g'.st.sub sub) (e'.trans (Ext.sub sub))
theorem noCX {P : Program} {w : World} (H : Hp) (s : Shared) (e : Value) (s' : Shared) (h : L2.CX P w [] H s (fun _ _ _ => False) e s') : False := by
  obtain ⟨_, _, _, _, _, _, _, _, _, _, _, _, z⟩ := h
  exact z.elim
def lawSp (m : MSp) : Prop := ∀ (ns : List Int), ns.length ≤ 63 → (∀ z ∈ ns, Builtin.Int.intBits z ≤ 1048576) → m [.rol (ns.map W.int)] (fun _ => none) (fun w _ => w = .bl true) noX
theorem walk_law {l : PySem.W.OpenLaw} {k : Nat} {q : Program} {loose : List Str} {XP : (Str → Option Value) → Heap → Prop} {YP : World → Heap → Prop} {d : DefRec} {x : Str} {m : MSp}
    (hn : l.most = some 63) (hdf : d.params.defaults = []) (hr : Room k callerA) (hm : lawSp m)
    (F : ∀ (w : World) (mg : Str → Option Value) (fa : Addr) (h : Heap), YP w h → h.Ns mainGlobals mg → mg d.name = some (.ref fa) →
      ∃ (K : PySem.W.Frag) (fd : FuncData), K.In h ∧ (∀ (s : Shared) (u : Value), BindsTo s fd ⟨[u], []⟩ [(x, u)]) ∧
        ∀ base : Heap, K.In base → base.Ns mainGlobals mg → FnOk l.prog w K mg base (L2.CX l.prog w) k fa fd [x] (liftSp K m)) :
    PySem.W.WalkO q loose XP YP l.row.toRowW d [] (fun f vs => PySem.call f vs) := by
  refine Att.attach_callB hn hdf fun w s₀ s₁ mg mb fa o pm cd doc a vs ns G Y ho hd hcd hmg hobj hints hlen hbits hg => ?_
  obtain ⟨K, fd, KX, hb, hF⟩ := F w mg fa _ Y G.T.g hmg
  refine law_call KX G.T.g G.T.b G.T.builtins G.T.nolimit hg hobj hints (Nat.le_trans hlen (by decide)) hr hF hb (fun H hO hS => ?_) fun H e s' => noCX H _ e s'
  refine ⟨[.rol (ns.map W.int)], fun _ => none, fun w _ => w = .bl true, noX, .cons (.rol (vs := ns.map V.int) ?_ (RepWs.ofInts ns)) .nil, (fun a o e => by cases e), hm ns hlen hbits, fun w' S' v H' e _ _ r => ?_, fun _ _ _ z => False.elim z⟩
  · rcases hS with (h | ⟨o, h⟩) | h
    · rcases hO a with z | ⟨o, xs, z⟩
      · rw [z] at h; cases h
      · rw [z] at h; cases h
    · exact .inl ⟨o, h⟩
    · exact .inr h
  · subst e; cases r; rfl
def nmX : Nat → Str
  | 0 => "LookError"
  | 1 => "NoSize"
  | 2 => "NoSheet"
  | 3 => "NoCount"
  | 4 => "NoPane"
  | 5 => "NoBrother"
  | 6 => "NoParent"
  | 7 => "NoText"
  | 10 => "Sheets"
  | 11 => "Panes"
  | 12 => "Viewer"
  | 13 => "Pointer"
  | _ => ""
def clK (K : PySem.W.Frag) (n : Nat) : Addr := He.ga K (nmX n)
def excB (K : PySem.W.Frag) (D : Addr) : Bool :=
  He.eqO (PySem.W.findIn K (.ref D) "__getattribute__") (some (some (.builtin "BaseException.__getattribute__"))) && (He.eqO (PySem.W.findIn K (.ref D) "__getattr__") (some none) &&
  (decide (PySem.W.subIn K (.ref D) (.type "BaseException") = some true) && (PySem.W.hasDictIn K D && (He.eqO (PySem.W.findIn K (.ref D) "__class__") (some (some (.builtin "object.__class__"))) &&
  (He.eqO (PySem.W.specialIn K (.builtin "object.__class__") "__get__") (some (some (.builtin "getset_descriptor.__get__"))) && (decide (PySem.W.takesIn K (.builtin "object.__class__") = some true) && decide (PySem.W.mroIn K D (.type "object") = some true)))))))
theorem excB_ok {K : PySem.W.Frag} {D : Addr} (h : excB K D = true) : ExcC K D := by
  obtain ⟨h1, h⟩ := He.ba h
  obtain ⟨h2, h⟩ := He.ba h
  obtain ⟨h3, h⟩ := He.ba h
  obtain ⟨h4, h⟩ := He.ba h
  obtain ⟨h5, h⟩ := He.ba h
  obtain ⟨h6, h⟩ := He.ba h
  obtain ⟨h7, h8⟩ := He.ba h
  exact ⟨He.eqO_ok h1, He.eqO_ok h2, of_decide_eq_true h3, h4, He.eqO_ok h5, He.eqO_ok h6, of_decide_eq_true h7, of_decide_eq_true h8⟩
def glsB (K : PySem.W.Frag) (x : Str) : Key → Bool
  | .inl i => (He.Fa.int x i).ok K
  | .inr z => (He.Fa.str x z).ok K
def fldB (K : PySem.W.Frag) (p : Nat × Str) : Bool := (He.Fa.cls (nmX p.1)).ok K && (He.Fa.noat (nmX p.1) p.2).ok K
def exB (K : PySem.W.Frag) (p : Nat × Str) : Bool := decide (p.2 = nmX p.1) && ((He.Fa.glo (nmX p.1)).ok K && ((He.Fa.exc (nmX p.1)).ok K && (excB K (clK K p.1) && decide (PySem.W.kitOne K (.ref (clK K p.1)) (.type "ValueError") = some true))))
def exxB (K : PySem.W.Frag) (p q : Nat × Str) : Bool := decide (PySem.W.exmOne K (.ref (clK K p.1)) (.ref (clK K q.1)) = some (subX p.1 q.1)) && decide (PySem.W.kitOne K (.ref (clK K p.1)) (.ref (clK K q.1)) = some (subX p.1 q.1))
structure Look where
  fld : List (Nat × Str) := []
  exc : List (Nat × Str) := []
  gls : List (Str × Key) := []
def Look.ex (L : Look) : List Nat := L.exc.map (·.1)
def Look.ctx (L : Look) : Ctx := { N := [], fns := [], fld := L.fld, exc := L.exc, gls := L.gls }
def Look.ok (L : Look) (K : PySem.W.Frag) : Bool := L.fld.all (fldB K) && (L.exc.all (exB K) && (L.exc.all (fun p => L.exc.all (exxB K p)) && L.gls.all fun p => glsB K p.1 p.2))
theorem Knows.start {P : Program} {w : World} {K : PySem.W.Frag} {mg : Str → Option Value} {base h : Heap} {G : Gs} {L : Look} (X : K.In h) (N : h.Ns mainGlobals mg) (c : L.ok K = true) (hcl : G.cl = clK K) (hex : G.ex = L.ex) (hhx : G.hx = none) : Knows P w K mg base G L.ctx 0 := by
  obtain ⟨c1, c⟩ := He.ba c
  obtain ⟨c2, c⟩ := He.ba c
  obtain ⟨c3, c4⟩ := He.ba c
  rw [List.all_eq_true] at c1 c2 c3 c4
  refine ⟨rfl, Fns.nil, (fun _ _ _ z => by cases z), (fun _ _ _ z => by cases z), fun a f z => ?_, fun a x z => ?_, fun a x d y z z' => ?_, fun n z => ?_, fun x k z => ?_, hhx⟩
  · obtain ⟨h1, h2⟩ := He.ba (c1 _ z)
    rw [hcl]
    exact ⟨He.cls_ok h1, He.noat_ok h2⟩
  · obtain ⟨h1, h⟩ := He.ba (c2 _ z)
    obtain ⟨h2, h⟩ := He.ba h
    obtain ⟨h3, h⟩ := He.ba h
    obtain ⟨h4, h5⟩ := He.ba h
    obtain ⟨e1, e2, e3, e4⟩ := He.exc_ok h3
    have e := of_decide_eq_true h1
    dsimp only at e
    subst e
    rw [hcl]
    exact ⟨He.glo_ok X N h2, e1, e2, e3, e4, excB_ok h4, of_decide_eq_true h5⟩
  · obtain ⟨h1, h2⟩ := He.ba (List.all_eq_true.mp (c3 _ z) _ z')
    rw [hcl]
    exact ⟨of_decide_eq_true h1, of_decide_eq_true h2⟩
  · rw [hex] at z
    obtain ⟨p, hp, rfl⟩ := List.mem_map.mp z
    exact ⟨p.2, hp⟩
  · have h := c4 _ z
    cases k with
    | inl i =>
      obtain ⟨t, e⟩ := He.int_ok X N h
      exact ⟨_, e, ⟨t, rfl⟩⟩
    | inr i =>
      obtain ⟨t, e⟩ := He.str_ok X N h
      exact ⟨_, e, ⟨t, rfl⟩⟩
abbrev AlX : Type := Bool × He.AlD
def obsX (L : Look) (fa : List He.Fa) (fn : List He.DefD) (K : PySem.W.Frag) : AlX := (L.ok K, He.obsD fa fn K)
def valX (fn : List He.DefD) : AlX := (true, He.valD fn)
def SaysX (L : Look) (fa : List He.Fa) (fn : List He.DefD) (K : PySem.W.Frag) : Prop := obsX L fa fn K = valX fn
theorem SaysX.d {L : Look} {fa : List He.Fa} {fn : List He.DefD} {K : PySem.W.Frag} (c : SaysX L fa fn K) : He.SaysD fa fn K := congrArg (fun z : AlX => z.2) c
theorem SaysX.l {L : Look} {fa : List He.Fa} {fn : List He.DefD} {K : PySem.W.Frag} (c : SaysX L fa fn K) : L.ok K = true := congrArg (fun z : AlX => z.1) c
def obsXG (n : Nat) (L : Look) (fa : List He.Fa) (fn : List He.DefD) (g : Addr → Option Obj) : AlX := obsX L fa fn (He.frG g (He.asD g n))
def hookX (n : Nat) (L : Look) (fa : List He.Fa) (fn : List He.DefD) : PySem.W.Hook where
  α := AlX
  obs := fun s => obsXG n L fa fn s.heap.get?
  val := fun _ => valX fn
  says := fun _ h => ∃ K : PySem.W.Frag, K.In h ∧ SaysX L fa fn K
  of := fun _ _ e => ⟨_, He.frG_in, e⟩
  keeps := fun _ _ _ ⟨K, hK, c⟩ k => ⟨K, PySem.W.Frag.In.keeps hK k, c⟩
theorem obsXG_eq {n : Nat} {L : Look} {fa : List He.Fa} {fn : List He.DefD} {g : Addr → Option Obj} {s : Shared} (h : ∀ a, g a = s.heap.get? a) : obsXG n L fa fn g = (hookX n L fa fn).obs s := by
  have e : g = s.heap.get? := funext h
  rw [e] <;> rfl
def Gs.set (G : Gs) (i : Nat) (m : MSp) : Gs := { G with fn := fun j => if j = i then m else G.fn j }
theorem Knows.more {P : Program} {w : World} {K : PySem.W.Frag} {mg : Str → Option Value} {base : Heap} {G : Gs} {C : Ctx} {k : Nat} (h : Knows P w K mg base G C k) : ∀ n, Knows P w K mg base G C (k + n)
  | 0 => h
  | n + 1 => (h.more n).up
end M3
namespace M3L
open PySem PySem.Spec PyProof.Rows L2 M3
def top (i : Nat) : Stmt := PySem.Challenge.pw_panelook_k42_written.main.body.getD i (.Pass ⟨0, 0, 0, 0⟩)
def LK : Look := { fld := [(10, "deeds"), (10, "grids"), (10, "sizes"), (11, "facts"), (11, "kept_sheets"), (11, "lists"), (11, "newest")], exc := [(0, "LookError"), (1, "NoSize"), (2, "NoSheet"), (3, "NoCount"), (4, "NoPane"), (5, "NoBrother"), (6, "NoParent")], gls := [("MOST", .inl 60)] }
abbrev s10_0 : Stmt := inClass (top 10) 0
def d10_0 : He.DefD := ⟨("Panes", some "__init__"), "__init__", "Panes.__init__", defArgs s10_0, defBody s10_0, defScope s10_0, [], []⟩
abbrev s10_1 : Stmt := inClass (top 10) 1
def d10_1 : He.DefD := ⟨("Panes", some "sheets_kept"), "sheets_kept", "Panes.sheets_kept", defArgs s10_1, defBody s10_1, defScope s10_1, [], []⟩
abbrev s10_2 : Stmt := inClass (top 10) 2
def d10_2 : He.DefD := ⟨("Panes", some "fact_of"), "fact_of", "Panes.fact_of", defArgs s10_2, defBody s10_2, defScope s10_2, [], []⟩
abbrev s10_3 : Stmt := inClass (top 10) 3
def d10_3 : He.DefD := ⟨("Panes", some "list_of"), "list_of", "Panes.list_of", defArgs s10_3, defBody s10_3, defScope s10_3, [], []⟩
abbrev s10_4 : Stmt := inClass (top 10) 4
def d10_4 : He.DefD := ⟨("Panes", some "told"), "told", "Panes.told", defArgs s10_4, defBody s10_4, defScope s10_4, [], []⟩
abbrev s10_5 : Stmt := inClass (top 10) 5
def d10_5 : He.DefD := ⟨("Panes", some "inside"), "inside", "Panes.inside", defArgs s10_5, defBody s10_5, defScope s10_5, [], []⟩
abbrev s10_6 : Stmt := inClass (top 10) 6
def d10_6 : He.DefD := ⟨("Panes", some "all_panes"), "all_panes", "Panes.all_panes", defArgs s10_6, defBody s10_6, defScope s10_6, [], []⟩
abbrev s10_7 : Stmt := inClass (top 10) 7
def d10_7 : He.DefD := ⟨("Panes", some "following"), "following", "Panes.following", defArgs s10_7, defBody s10_7, defScope s10_7, [], []⟩
abbrev s19_1 : Stmt := inClass (top 19) 1
def d19_1 : He.DefD := ⟨("Sheets", some "size_of"), "size_of", "Sheets.size_of", defArgs s19_1, defBody s19_1, defScope s19_1, [], []⟩
abbrev s10_8 : Stmt := inClass (top 10) 8
def d10_8 : He.DefD := ⟨("Panes", some "open_pane"), "open_pane", "Panes.open_pane", defArgs s10_8, defBody s10_8, defScope s10_8, [], []⟩
abbrev s10_9 : Stmt := inClass (top 10) 9
def d10_9 : He.DefD := ⟨("Panes", some "move"), "move", "Panes.move", defArgs s10_9, defBody s10_9, defScope s10_9, [], []⟩
abbrev s10_10 : Stmt := inClass (top 10) 10
def d10_10 : He.DefD := ⟨("Panes", some "resize"), "resize", "Panes.resize", defArgs s10_10, defBody s10_10, defScope s10_10, [], []⟩
abbrev s10_11 : Stmt := inClass (top 10) 11
def d10_11 : He.DefD := ⟨("Panes", some "scroll"), "scroll", "Panes.scroll", defArgs s10_11, defBody s10_11, defScope s10_11, [], []⟩
abbrev s10_12 : Stmt := inClass (top 10) 12
def d10_12 : He.DefD := ⟨("Panes", some "turn"), "turn", "Panes.turn", defArgs s10_12, defBody s10_12, defScope s10_12, [], []⟩
abbrev s10_13 : Stmt := inClass (top 10) 13
def d10_13 : He.DefD := ⟨("Panes", some "lift"), "lift", "Panes.lift", defArgs s10_13, defBody s10_13, defScope s10_13, [], []⟩
abbrev s10_14 : Stmt := inClass (top 10) 14
def d10_14 : He.DefD := ⟨("Panes", some "sink"), "sink", "Panes.sink", defArgs s10_14, defBody s10_14, defScope s10_14, [], []⟩
abbrev s10_15 : Stmt := inClass (top 10) 15
def d10_15 : He.DefD := ⟨("Panes", some "put_over"), "put_over", "Panes.put_over", defArgs s10_15, defBody s10_15, defScope s10_15, [], []⟩
abbrev s10_16 : Stmt := inClass (top 10) 16
def d10_16 : He.DefD := ⟨("Panes", some "put_into"), "put_into", "Panes.put_into", defArgs s10_16, defBody s10_16, defScope s10_16, [], []⟩
abbrev s10_17 : Stmt := inClass (top 10) 17
def d10_17 : He.DefD := ⟨("Panes", some "hide"), "hide", "Panes.hide", defArgs s10_17, defBody s10_17, defScope s10_17, [], []⟩
abbrev s10_18 : Stmt := inClass (top 10) 18
def d10_18 : He.DefD := ⟨("Panes", some "show"), "show", "Panes.show", defArgs s10_18, defBody s10_18, defScope s10_18, [], []⟩
abbrev s10_19 : Stmt := inClass (top 10) 19
def d10_19 : He.DefD := ⟨("Panes", some "let_go"), "let_go", "Panes.let_go", defArgs s10_19, defBody s10_19, defScope s10_19, [], []⟩
abbrev s18 : Stmt := top 18
def d18 : He.DefD := ⟨("cut_between", none), "cut_between", "cut_between", defArgs s18, defBody s18, defScope s18, [], []⟩
abbrev s19_0 : Stmt := inClass (top 19) 0
def d19_0 : He.DefD := ⟨("Sheets", some "__init__"), "__init__", "Sheets.__init__", defArgs s19_0, defBody s19_0, defScope s19_0, [], []⟩
abbrev s19_2 : Stmt := inClass (top 19) 2
def d19_2 : He.DefD := ⟨("Sheets", some "how_many"), "how_many", "Sheets.how_many", defArgs s19_2, defBody s19_2, defScope s19_2, [], []⟩
abbrev s19_3 : Stmt := inClass (top 19) 3
def d19_3 : He.DefD := ⟨("Sheets", some "make"), "make", "Sheets.make", defArgs s19_3, defBody s19_3, defScope s19_3, [], []⟩
abbrev s19_4 : Stmt := inClass (top 19) 4
def d19_4 : He.DefD := ⟨("Sheets", some "cells_met"), "cells_met", "Sheets.cells_met", defArgs s19_4, defBody s19_4, defScope s19_4, [], []⟩
abbrev s19_5 : Stmt := inClass (top 19) 5
def d19_5 : He.DefD := ⟨("Sheets", some "write"), "write", "Sheets.write", defArgs s19_5, defBody s19_5, defScope s19_5, [], []⟩
abbrev s19_6 : Stmt := inClass (top 19) 6
def d19_6 : He.DefD := ⟨("Sheets", some "fill"), "fill", "Sheets.fill", defArgs s19_6, defBody s19_6, defScope s19_6, [], []⟩
abbrev s19_8 : Stmt := inClass (top 19) 8
def d19_8 : He.DefD := ⟨("Sheets", some "rows_of"), "rows_of", "Sheets.rows_of", defArgs s19_8, defBody s19_8, defScope s19_8, [], []⟩
abbrev s21 : Stmt := top 21
def d21 : He.DefD := ⟨("sheet_rows", none), "sheet_rows", "sheet_rows", defArgs s21, defBody s21, defScope s21, [], []⟩
abbrev s22 : Stmt := top 22
def d22 : He.DefD := ⟨("pane_row", none), "pane_row", "pane_row", defArgs s22, defBody s22, defScope s22, [], []⟩
abbrev s23 : Stmt := top 23
def d23 : He.DefD := ⟨("show_panes", none), "show_panes", "show_panes", defArgs s23, defBody s23, defScope s23, [], []⟩
abbrev s25 : Stmt := top 25
def d25 : He.DefD := ⟨("_law_draws", none), "_law_draws", "_law_draws", defArgs s25, defBody s25, defScope s25, [], []⟩
abbrev s26 : Stmt := top 26
def d26 : He.DefD := ⟨("_law_sign", none), "_law_sign", "_law_sign", defArgs s26, defBody s26, defScope s26, [], []⟩
abbrev s27 : Stmt := top 27
def d27 : He.DefD := ⟨("_law_begun", none), "_law_begun", "_law_begun", defArgs s27, defBody s27, defScope s27, [], []⟩
abbrev s28 : Stmt := top 28
def d28 : He.DefD := ⟨("_law_opened", none), "_law_opened", "_law_opened", defArgs s28, defBody s28, defScope s28, [], []⟩
abbrev s29 : Stmt := top 29
def d29 : He.DefD := ⟨("_law_within", none), "_law_within", "_law_within", defArgs s29, defBody s29, defScope s29, [], []⟩
abbrev s30 : Stmt := top 30
def d30 : He.DefD := ⟨("_law_ordered", none), "_law_ordered", "_law_ordered", defArgs s30, defBody s30, defScope s30, [], []⟩
abbrev s31 : Stmt := top 31
def d31 : He.DefD := ⟨("_law_gone", none), "_law_gone", "_law_gone", defArgs s31, defBody s31, defScope s31, [], []⟩
abbrev s32 : Stmt := top 32
def d32 : He.DefD := ⟨("_law_met", none), "_law_met", "_law_met", defArgs s32, defBody s32, defScope s32, [], []⟩
abbrev s33 : Stmt := top 33
def d33 : He.DefD := ⟨("_law_deed", none), "_law_deed", "_law_deed", defArgs s33, defBody s33, defScope s33, [], []⟩
abbrev s34 : Stmt := top 34
def d34 : He.DefD := ⟨("_law_written", none), "_law_written", "_law_written", defArgs s34, defBody s34, defScope s34, [], []⟩
abbrev s35 : Stmt := top 35
def d35 : He.DefD := ⟨("law", none), "law", "law", defArgs s35, defBody s35, defScope s35, [], []⟩
def fn_0 : List He.DefD := [d10_0, d10_1, d10_2, d10_3, d10_4, d10_5, d10_6, d10_7, d19_1, d10_8, d10_9, d10_10, d10_11, d10_12, d10_13, d10_14, d10_15, d10_16, d10_17, d10_18, d10_19, d18, d19_0, d19_2, d19_3, d19_4, d19_5, d19_6, d19_8, d21]
def fn_1 : List He.DefD := [d22, d23, d25, d26, d27, d28, d29, d30, d31, d32, d33, d34, d35]
def fn : List He.DefD := fn_0 ++ fn_1
def fa_0 : List He.Fa := [.glo "cut_between", .glo "sheet_rows", .glo "pane_row", .glo "show_panes", .glo "_law_draws", .glo "_law_sign", .glo "_law_begun", .glo "_law_opened", .glo "_law_within", .glo "_law_ordered", .glo "_law_gone", .glo "_law_met", .glo "_law_deed", .glo "_law_written", .glo "law", .free "len", .free "max", .free "min", .free "range", .free "zip", .free "enumerate", .free "tuple", .free "list", .free "sum", .free "any", .free "all", .free "sorted", .free "set", .free "isinstance", .free "int"]
def fa_1 : List He.Fa := [.free "bool", .free "str", .free "abs", .free "dict", .free "ValueError", .glo "Panes", .cls "Panes", .glo "Sheets", .cls "Sheets", .mkr "Panes", .meth "Panes" "sheets_kept", .meth "Panes" "fact_of", .meth "Panes" "list_of", .meth "Panes" "told", .meth "Panes" "inside", .meth "Panes" "all_panes", .meth "Panes" "following", .meth "Sheets" "size_of", .meth "Panes" "open_pane", .meth "Panes" "move", .meth "Panes" "resize", .meth "Panes" "scroll", .meth "Panes" "turn", .meth "Panes" "lift", .meth "Panes" "sink", .meth "Panes" "put_over", .meth "Panes" "put_into", .meth "Panes" "hide", .meth "Panes" "show", .meth "Panes" "let_go"]
def fa_2 : List He.Fa := [.mkr "Sheets", .meth "Sheets" "how_many", .meth "Sheets" "make", .meth "Sheets" "cells_met", .meth "Sheets" "write", .meth "Sheets" "fill", .meth "Sheets" "rows_of"]
def fa : List He.Fa := fa_0 ++ fa_1 ++ fa_2
def loose_0 : List PySem.Str := ["_wall", "__name__", "LookError", "NoSize", "NoSheet", "NoCount", "NoPane", "NoBrother", "NoParent", "Panes", "band_put", "span_put", "edges_of", "region_of", "MOST", "cut_between", "Sheets", "sheet_rows", "pane_row", "show_panes", "_law_draws", "_law_sign", "_law_begun", "_law_opened", "_law_within", "_law_ordered", "_law_gone", "_law_met", "_law_deed", "_law_written"]
def loose : List PySem.Str := loose_0
abbrev R : PySem.W.OpenRow := PySem.W.OpenLaw.row PySem.Challenge.rw_panelook_k42_written
abbrev hk : PySem.W.Hook := hookX 4 LK fa fn
def ob (s : PySem.W.SharedT) : AlX := obsXG 4 LK fa fn (HandSHeadRun.getT s)
theorem obE (s : PySem.W.SharedT) : ob s = hk.obs s.abs :=
  obsXG_eq (HandSHeadRun.getT_eq s)
theorem run (w : World) : HandSHeadRun.RunEq R (PySem.W.view R.prog [35]) hk ob 5000 loose w := by
  intro os
  kernel_rfl
end M3L
namespace M3
open PySem L2
theorem getv_0 {w : W} {σ : Envr} : getv (some w :: σ) 0 = some w := rfl
theorem getv_s {o : Option W} {σ : Envr} {n : Nat} : getv (o :: σ) (n + 1) = getv σ n := rfl
theorem setv_0 {o u : Option W} {σ : Envr} : List.set (o :: σ) 0 u = u :: σ := rfl
theorem setv_s {o u : Option W} {σ : Envr} {n : Nat} : List.set (o :: σ) (n + 1) u = o :: List.set σ n u := rfl
theorem bin_addI {i j : Int} {Q : W → Prop} : binW .add (.int i) (.int j) Q = Q (.int (i + j)) := rfl
theorem bin_addS {i j : Str} {Q : W → Prop} : binW .add (.str i) (.str j) Q = (i.length + j.length ≤ sizeLine ∧ Q (.str (i ++ j))) := rfl
theorem bin_addT {i j : List W} {Q : W → Prop} : binW .add (.tup i) (.tup j) Q = (i.length + j.length ≤ sizeLine ∧ Q (.tup (i ++ j))) := rfl
theorem bin_sub {i j : Int} {Q : W → Prop} : binW .sub (.int i) (.int j) Q = Q (.int (i - j)) := rfl
theorem bin_mul {i j : Int} {Q : W → Prop} : binW .mul (.int i) (.int j) Q = (mulOk i j ∧ Q (.int (i * j))) := rfl
theorem bin_fdiv {i j : Int} {Q : W → Prop} : binW .fdiv (.int i) (.int j) Q = (divOk j ∧ Q (.int (i / j))) := rfl
theorem bin_mod {i j : Int} {Q : W → Prop} : binW .mod (.int i) (.int j) Q = (0 < j ∧ Q (.int (i % j))) := rfl
theorem cmp_lt {i j : Int} {Q : Bool → Prop} : cmpW .lt (.int i) (.int j) Q = Q (decide (i < j)) := rfl
theorem cmp_le {i j : Int} {Q : Bool → Prop} : cmpW .le (.int i) (.int j) Q = Q (decide (i ≤ j)) := rfl
theorem cmp_gt {i j : Int} {Q : Bool → Prop} : cmpW .gt (.int i) (.int j) Q = Q (decide (j < i)) := rfl
theorem cmp_ge {i j : Int} {Q : Bool → Prop} : cmpW .ge (.int i) (.int j) Q = Q (decide (j ≤ i)) := rfl
theorem cmp_eqI {i j : Int} {Q : Bool → Prop} : cmpW .eq (.int i) (.int j) Q = Q (decide (i = j)) := by
  apply propext
  constructor
  · rintro ⟨_, _, h⟩
    have e : W.eqv (.int i) (.int j) = decide (i = j) := by show (i == j) = _; exact Bool.beq_eq_decide_eq i j
    rw [← e]; exact h
  · intro h
    refine ⟨⟨rfl, rfl⟩, ⟨rfl, rfl⟩, ?_⟩
    have e : W.eqv (.int i) (.int j) = decide (i = j) := by show (i == j) = _; exact Bool.beq_eq_decide_eq i j
    rw [e]; exact h
theorem cmp_neI {i j : Int} {Q : Bool → Prop} : cmpW .ne (.int i) (.int j) Q = Q (!decide (i = j)) := by
  apply propext
  have e : W.eqv (.int i) (.int j) = decide (i = j) := by show (i == j) = _; exact Bool.beq_eq_decide_eq i j
  constructor
  · rintro ⟨_, _, h⟩
    rw [← e]; exact h
  · intro h
    refine ⟨⟨rfl, rfl⟩, ⟨rfl, rfl⟩, ?_⟩
    rw [e]; exact h
theorem asBl_bl {b : Bool} {Q : Bool → Prop} : asBl (.bl b) Q = Q b := rfl
theorem if_ff {P Q : Prop} : (if false = true then P else Q) = Q := if_neg (fun h => by cases h)
theorem if_tt {P Q : Prop} : (if true = true then P else Q) = P := if_pos rfl
theorem wipeW_nil {σ : Envr} : wipeW σ [] = σ := rfl
theorem wipeW_cons {σ : Envr} {v : Nat} {vs : List Nat} : wipeW σ (v :: vs) = (wipeW σ vs).set v none := rfl
theorem sizeLine_val : sizeLine = 16777216 := sizeLine_eq
theorem replicate_s {n : Nat} {a : Option W} : List.replicate (n + 1) a = a :: List.replicate n a := rfl
theorem replicate_0 {a : Option W} : List.replicate 0 a = [] := rfl
def ForG (G : Gs) (g : IG) (b : ISs) (D : MEnds) (σ : Envr) (xs : List W) (st : Sto → Prop) (S1 : Sto) : Prop := ∃ I : Nat → Envr → Sto → Prop, (∃ S2, Sub S2 S1 ∧ I 0 σ S2) ∧
      (∀ k x σ' S', xs[k]? = some x → I k σ' S' → st S' ∧ wpG G g x σ' S' (fun σ2 S2 => wpSs G b { D with nx := I (k + 1), ct := I (k + 1), bk := D.nx } σ2 S2) noX) ∧
      ∀ σ' S', I xs.length σ' S' → st S' ∧ D.nx σ' S'
def WhlG (G : Gs) (c : IE) (b : ISs) (D : MEnds) (σ : Envr) (S : Sto) : Prop := ∃ I : Nat → Envr → Sto → Prop, (∃ n S2, Sub S2 S ∧ I n σ S2) ∧ ∀ n σ S, I n σ S →
      wpE G c σ S (fun x S1 => asBl x fun k => if k = true then wpSs G b { D with nx := fun σ' S' => ∃ m, m < n ∧ I m σ' S', ct := fun σ' S' => ∃ m, m < n ∧ I m σ' S', bk := D.nx } σ S1 else D.nx σ S1) (D.ex σ)
def CompG (G : Gs) (e : IE) (g : IG) (own : List Nat) (σ : Envr) (xs : List W) (st : Sto → Prop) (S1 : Sto) (Q : List W → Sto → Prop) : Prop := ∃ I : Nat → List W → Sto → Prop, (∃ S2, Sub S2 S1 ∧ I 0 [] S2) ∧
      (∀ k acc S3 x, xs[k]? = some x → I k acc S3 → st S3 ∧ wpG G g x (wipeW σ own) S3 (fun σ' S4 => wpE G e σ' S4 (fun y S5 => acc.length < sizeLine ∧ I (k + 1) (acc ++ [y]) S5) noX) noX) ∧
      ∀ acc S3, I xs.length acc S3 → st S3 ∧ Q acc S3
def CompIfG (G : Gs) (e c : IE) (g : IG) (own : List Nat) (σ : Envr) (xs : List W) (st : Sto → Prop) (S1 : Sto) (Q : List W → Sto → Prop) : Prop := ∃ I : Nat → List W → Sto → Prop, (∃ S2, Sub S2 S1 ∧ I 0 [] S2) ∧
      (∀ k acc S3 x, xs[k]? = some x → I k acc S3 → st S3 ∧ wpG G g x (wipeW σ own) S3 (fun σ' S4 => wpE G c σ' S4 (fun z S5 => asBl z fun b =>
        if b = true then wpE G e σ' S5 (fun y S6 => acc.length < sizeLine ∧ I (k + 1) (acc ++ [y]) S6) noX else I (k + 1) acc S5) noX) noX) ∧
      ∀ acc S3, I xs.length acc S3 → st S3 ∧ Q acc S3
section
variable {G : Gs} {D : MEnds} {σ : Envr} {S : Sto} {X : XQ} {Q : List W → Sto → Prop}
theorem ws_set {i : Nat} {e : IE} : wpS G (.set i e) D σ S = wpE G e σ S (fun w S1 => D.nx (σ.set i (some w)) S1) (D.ex σ) := rfl
theorem ws_par {i j : Nat} {a b : IE} : wpS G (.par i j a b) D σ S = wpE G a σ S (fun x S1 => wpE G b σ S1 (fun y S2 => D.nx ((σ.set i (some x)).set j (some y)) S2) (D.ex σ)) (D.ex σ) := rfl
theorem ws_asg {g : IG} {e : IE} : wpS G (.asg g e) D σ S = wpE G e σ S (fun w S1 => wpG G g w σ S1 D.nx noX) (D.ex σ) := rfl
theorem ws_aug {i : Nat} {op : BOp} {e : IE} : wpS G (.aug i op e) D σ S = (match getv σ i with
    | some x => wpE G e σ S (fun y S1 => augW op x y fun z => D.nx (σ.set i (some z)) S1) (D.ex σ)
    | none => False) := rfl
theorem ws_exp {e : IE} : wpS G (.exp e) D σ S = wpE G e σ S (fun _ S1 => D.nx σ S1) (D.ex σ) := rfl
theorem ws_ret {e : IE} : wpS G (.ret e) D σ S = wpE G e σ S D.rt (D.ex σ) := rfl
theorem ws_retN : wpS G .retN D σ S = D.rt .non S := rfl
theorem ws_pas : wpS G .pas D σ S = D.nx σ S := rfl
theorem ws_brk : wpS G .brk D σ S = D.bk σ S := rfl
theorem ws_cnt : wpS G .cnt D σ S = D.ct σ S := rfl
theorem ws_iff {c : IE} {a b : ISs} : wpS G (.iff c a b) D σ S = wpE G c σ S (fun x S1 => asBl x fun k => if k = true then wpSs G a D σ S1 else wpSs G b D σ S1) (D.ex σ) := rfl
theorem ws_whl {c : IE} {b : ISs} : wpS G (.whl c b) D σ S = WhlG G c b D σ S := rfl
theorem ws_for {g : IG} {it : II} {b : ISs} : wpS G (.for g it b) D σ S = wpI G it σ S (fun xs st S1 => ForG G g b D σ xs st S1) (D.ex σ) := rfl
theorem wss_nil : wpSs G .nil D σ S = D.nx σ S := rfl
theorem wss_cons {s : IS} {r : ISs} : wpSs G (.cons s r) D σ S = wpS G s { D with nx := wpSs G r D } σ S := rfl
theorem wt_dsp {es : IEs} : wpT G (.dsp es) σ S Q X = wpEs G es σ S (fun ws S1 => ws.length ≤ sizeLine ∧ Q ws S1) X := rfl
theorem wt_cat {a b : IL} : wpT G (.cat a b) σ S Q X = wpL G a σ S (fun xs k1 st S1 => wpL G b σ S1 (fun ys k2 _ S2 => k1 ≠ .tu ∧ k2 ≠ .tu ∧ st S2 ∧ xs.length + ys.length ≤ sizeLine ∧ Q (xs ++ ys) S2) X) X := rfl
theorem wt_slc {a : IL} {lo hi : IO} : wpT G (.slc a lo hi) σ S Q X = wpL G a σ S (fun xs k st S1 => wpO G lo σ S1 (fun l S2 => wpO G hi σ S2 (fun h S3 => k ≠ .tu ∧ st S3 ∧ Q (cutW xs l h) S3) X) X) X := rfl
theorem wt_rev {a : IL} : wpT G (.rev a) σ S Q X = wpL G a σ S (fun xs k _ S1 => k ≠ .tu ∧ Q xs.reverse S1) X := rfl
theorem wt_lst {a : IL} : wpT G (.lst a) σ S Q X = wpL G a σ S (fun xs _ _ S1 => Q xs S1) X := rfl
theorem wt_srt {a : IL} : wpT G (.srt a) σ S Q X = wpL G a σ S (fun xs k _ S1 => k ≠ .tu ∧ srtW xs fun ys => Q ys S1) X := rfl
theorem wt_sset {a : IL} : wpT G (.sset a) σ S Q X = wpL G a σ S (fun xs k _ S1 => k ≠ .tu ∧ sSetW xs fun ys => Q ys S1) X := rfl
theorem wt_comp {e : IE} {g : IG} {it : II} {own : List Nat} : wpT G (.comp e g it own) σ S Q X = wpI G it σ S (fun xs st S1 => CompG G e g own σ xs st S1 Q) X := rfl
theorem wt_compif {e c : IE} {g : IG} {it : II} {own : List Nat} : wpT G (.compif e c g it own) σ S Q X = wpI G it σ S (fun xs st S1 => CompIfG G e c g own σ xs st S1 Q) X := rfl
variable {g : IG} {b : ISs} {xs : List W} {st : Sto → Prop} {S1 : Sto}
theorem ForG.by (I : Nat → Envr → Sto → Prop) (S2 : Sto) (sub : Sub S2 S1) (h0 : I 0 σ S2)
    (step : ∀ k x σ' S', xs[k]? = some x → I k σ' S' → st S' ∧ wpG G g x σ' S' (fun σ2 S2 => wpSs G b { D with nx := I (k + 1), ct := I (k + 1), bk := D.nx } σ2 S2) noX)
    (fin : ∀ σ' S', I xs.length σ' S' → st S' ∧ D.nx σ' S') : ForG G g b D σ xs st S1 := ⟨I, ⟨S2, sub, h0⟩, step, fin⟩
theorem WhlG.by {c : IE} (I : Nat → Envr → Sto → Prop) (n : Nat) (S2 : Sto) (sub : Sub S2 S) (h0 : I n σ S2)
    (step : ∀ n σ S, I n σ S → wpE G c σ S (fun x S1 => asBl x fun k => if k = true then wpSs G b { D with nx := fun σ' S' => ∃ m, m < n ∧ I m σ' S', ct := fun σ' S' => ∃ m, m < n ∧ I m σ' S', bk := D.nx } σ S1 else D.nx σ S1) (D.ex σ)) : WhlG G c b D σ S := ⟨I, ⟨n, S2, sub, h0⟩, step⟩
theorem CompG.map {α : Type} {e : IE} {own : List Nat} (l : List α) (enc f : α → W) (hx : xs = l.map enc) (hl : l.length ≤ 16777216) (hst : st S1)
    (h : ∀ a ∈ l, ∀ Q' : WQ, Q' (f a) S1 → wpG G g (enc a) (wipeW σ own) S1 (fun σ' S4 => wpE G e σ' S4 Q' noX) noX) (hq : Q (l.map f) S1) : CompG G e g own σ xs st S1 Q := by
  subst hx
  refine ⟨fun k acc S3 => S3 = S1 ∧ acc = (l.take k).map f, ⟨S1, Sub.refl _, rfl, by simp⟩, ?_, ?_⟩
  · rintro k acc S3 x hx ⟨rfl, rfl⟩
    rw [List.getElem?_map] at hx
    cases e : l[k]? with
    | none => rw [e] at hx; cases hx
    | some a =>
      rw [e] at hx
      cases hx
      have hk := (List.getElem?_eq_some_iff.mp e).1
      refine ⟨hst, h a (List.mem_of_getElem? e) _ ⟨?_, rfl, ?_⟩⟩
      · rw [List.length_map, List.length_take, sizeLine_val]; omega
      · rw [List.take_succ, e]; simp
  · rintro acc S3 ⟨rfl, rfl⟩
    rw [List.length_map, List.take_length]
    exact ⟨hst, hq⟩
theorem CompIfG.map {α : Type} {e c : IE} {own : List Nat} (l : List α) (enc f : α → W) (p : α → Bool) (hx : xs = l.map enc) (hl : l.length ≤ 16777216) (hst : st S1)
    (h : ∀ a ∈ l, ∀ (Q' : WQ) (R : Sto → Prop), (p a = true → Q' (f a) S1) → (p a = false → R S1) → wpG G g (enc a) (wipeW σ own) S1 (fun σ' S4 => wpE G c σ' S4 (fun z S5 => asBl z fun b => if b = true then wpE G e σ' S5 Q' noX else R S5) noX) noX)
    (hq : Q ((l.filter p).map f) S1) : CompIfG G e c g own σ xs st S1 Q := by
  subst hx
  refine ⟨fun k acc S3 => S3 = S1 ∧ acc = ((l.take k).filter p).map f, ⟨S1, Sub.refl _, rfl, by simp⟩, ?_, ?_⟩
  · rintro k acc S3 x hx ⟨rfl, rfl⟩
    rw [List.getElem?_map] at hx
    cases e : l[k]? with
    | none => rw [e] at hx; cases hx
    | some a =>
      rw [e] at hx
      cases hx
      have hk := (List.getElem?_eq_some_iff.mp e).1
      refine ⟨hst, h a (List.mem_of_getElem? e) _ _ (fun hp => ⟨?_, rfl, ?_⟩) fun hp => ⟨rfl, ?_⟩⟩
      · have h1 := List.length_filter_le p (l.take k)
        rw [List.length_map, sizeLine_val]
        rw [List.length_take] at h1
        omega
      · rw [List.take_succ, e, List.filter_append]; simp [hp]
      · rw [List.take_succ, e, List.filter_append]; simp [hp]
  · rintro acc S3 ⟨rfl, rfl⟩
    rw [List.length_map, List.take_length]
    exact ⟨hst, hq⟩
end
theorem idx_tup {ws : List W} {i : Int} {S : Sto} : idxW (.tup ws) (.int i) S = atI ws i := rfl
theorem idx_rol {ws : List W} {i : Int} {S : Sto} : idxW (.rol ws) (.int i) S = atI ws i := rfl
theorem idx_ref {a : Addr} {i : Int} {S : Sto} : idxW (.ref a) (.int i) S = (match S a with
    | some (.lst ws) => atI ws i
    | some (.dk _ kvs) => valD kvs (.inl i)
    | _ => none) := by
  unfold idxW
  dsimp only
  cases S a with
  | none => rfl
  | some o => cases o <;> rfl
theorem set_refI {a : Addr} {k : Int} {w : W} {S : Sto} {Q : Sto → Prop} : setW (.ref a) (.int k) w S Q = (match S a with
    | some (.lst ws) => (match ixN ws.length k with
      | some j => Q (put S a (.lst (ws.set j w)))
      | none => False)
    | some (.dk false kvs) => kvs.length < sizeLine ∧ Q (put S a (.dk false (putD kvs (.inl k) w)))
    | _ => False) := by
  unfold setW
  dsimp only
  cases S a with
  | none => rfl
  | some o => cases o with
    | lst ws => rfl
    | ins C fs => rfl
    | dk fz kvs => cases fz <;> rfl
    | dt fz kvs => cases fz <;> rfl
theorem ixN_0 {n : Nat} : ixN (n + 1) 0 = some 0 := by unfold ixN; rw [if_pos (by omega), if_pos (by omega)]; rfl
theorem ixN_1 {n : Nat} : ixN (n + 2) 1 = some 1 := by unfold ixN; rw [if_pos (by omega), if_pos (by omega)]; rfl
theorem ixN_2 {n : Nat} : ixN (n + 3) 2 = some 2 := by unfold ixN; rw [if_pos (by omega), if_pos (by omega)]; rfl
theorem ixN_3 {n : Nat} : ixN (n + 4) 3 = some 3 := by unfold ixN; rw [if_pos (by omega), if_pos (by omega)]; rfl
theorem atI_0 {α : Type} {a : α} {r : List α} : atI (a :: r) 0 = some a := by unfold atI; rw [List.length_cons, ixN_0]; rfl
theorem atI_1 {α : Type} {a b : α} {r : List α} : atI (a :: b :: r) 1 = some b := by unfold atI; rw [List.length_cons, List.length_cons, ixN_1]; rfl
theorem atI_2 {α : Type} {a b c : α} {r : List α} : atI (a :: b :: c :: r) 2 = some c := by unfold atI; rw [List.length_cons, List.length_cons, List.length_cons, ixN_2]; rfl
theorem atI_3 {α : Type} {a b c d : α} {r : List α} : atI (a :: b :: c :: d :: r) 3 = some d := by unfold atI; rw [List.length_cons, List.length_cons, List.length_cons, List.length_cons, ixN_3]; rfl
theorem put_at {S : Sto} {p q : Addr} {o u : MO} (h : p ≠ q) : put (put S p o) q u p = some o := by rw [put_ne h, put_same]
theorem ne_new {S : Sto} {p q : Addr} {o : MO} (h : S p = some o) (hq : S q = none) : q ≠ p := by rintro rfl; rw [h] at hq; cases hq
theorem ForG.map {α : Type} {G : Gs} {D : MEnds} {σ : Envr} {g : IG} {b : ISs} {xs : List W} {st : Sto → Prop} {S1 : Sto} (l : List α) (enc : α → W) (hx : xs = l.map enc)
    (I : List α → List α → Envr → Sto → Prop) (S2 : Sto) (sub : Sub S2 S1) (h0 : I [] l σ S2)
    (step : ∀ d a r σ' S', l = d ++ a :: r → I d (a :: r) σ' S' → st S' ∧ wpG G g (enc a) σ' S' (fun σ2 S2 => wpSs G b { D with nx := I (d ++ [a]) r, ct := I (d ++ [a]) r, bk := D.nx } σ2 S2) noX)
    (fin : ∀ σ' S', I l [] σ' S' → st S' ∧ D.nx σ' S') : ForG G g b D σ xs st S1 := by
  subst hx
  refine ForG.by (fun k => I (l.take k) (l.drop k)) S2 sub (by simpa using h0) ?_ ?_
  · intro k x σ' S' hx hI
    rw [List.getElem?_map] at hx
    cases e : l[k]? with
    | none => rw [e] at hx; cases hx
    | some a =>
      rw [e] at hx
      cases hx
      obtain ⟨hk, ea⟩ := List.getElem?_eq_some_iff.mp e
      have e1 : l.drop k = a :: l.drop (k + 1) := by rw [List.drop_eq_getElem_cons hk, ea]
      have e2 : l.take (k + 1) = l.take k ++ [a] := by rw [List.take_succ, e]; rfl
      have h := step (l.take k) a (l.drop (k + 1)) σ' S' (by rw [← e1, List.take_append_drop]) (by rw [← e1]; exact hI)
      rw [← e2] at h
      exact h
  · intro σ' S' hI
    rw [List.length_map, List.take_length, List.drop_length] at hI
    exact fin σ' S' hI
theorem len_tup {ws : List W} {S : Sto} : lenW (.tup ws) S = some ws.length := rfl
theorem len_rol {ws : List W} {S : Sto} : lenW (.rol ws) S = some ws.length := rfl
theorem len_ref {a : Addr} {S : Sto} : lenW (.ref a) S = (match S a with
    | some (.lst ws) => some ws.length
    | some (.dk false kvs) => some kvs.length
    | some (.dt false kvs) => some kvs.length
    | _ => none) := rfl
theorem isa_tupT {ws : List W} {S : Sto} : isaW (.tup ws) "tuple" S = some true := rfl
theorem isa_intI {i : Int} {S : Sto} : isaW (.int i) "int" S = some true := rfl
theorem isa_intB {i : Int} {S : Sto} : isaW (.int i) "bool" S = some false := rfl
theorem isa_blB {i : Bool} {S : Sto} : isaW (.bl i) "bool" S = some true := rfl
theorem isa_blI {i : Bool} {S : Sto} : isaW (.bl i) "int" S = some true := rfl
theorem isa_refL {a : Addr} {S : Sto} : isaW (.ref a) "list" S = (match S a with
    | some (.lst _) => some true
    | some (.dk false _) => some false
    | some (.dt false _) => some false
    | _ => none) := by
  unfold isaW tyW
  dsimp only
  cases S a with
  | none => rfl
  | some o => cases o with
    | lst ws => rfl
    | ins C fs => rfl
    | dk fz kvs => cases fz <;> rfl
    | dt fz kvs => cases fz <;> rfl
theorem isNon_int {i : Int} : isNon (.int i) = false := rfl
theorem isNon_tup {ws : List W} : isNon (.tup ws) = false := rfl
theorem isNon_non : isNon .non = true := rfl
theorem nc0 : ((0 : Nat) : Int) = 0 := rfl
theorem nc1 : ((1 : Nat) : Int) = 1 := rfl
theorem nc2 : ((2 : Nat) : Int) = 2 := rfl
theorem nc3 : ((3 : Nat) : Int) = 3 := rfl
theorem nc4 : ((4 : Nat) : Int) = 4 := rfl
theorem bff : (false == false) = true := rfl
theorem btf : (true == false) = false := rfl
theorem btt : (true == true) = true := rfl
theorem bft : (false == true) = false := rfl
local macro_rules | `(tactic| walk_at "wp") => `(tactic| try simp only [wss_nil, wss_cons, ws_set, ws_par, ws_asg, ws_aug, ws_exp, ws_ret, ws_retN, ws_pas, ws_brk, ws_cnt, ws_iff, ws_whl, ws_for, wpE, wpEs, wpO, wt_dsp, wt_cat, wt_slc, wt_rev, wt_lst, wt_srt, wt_sset, wt_comp, wt_compif, wpL, wpG, wpGs, wpI, getv_0, getv_s, setv_0, setv_s, bin_addI, bin_sub, bin_mul, bin_fdiv, bin_mod, cmp_lt, cmp_le, cmp_gt, cmp_ge, cmp_eqI, cmp_neI, asBl_bl, if_ff, if_tt, wipeW_nil, wipeW_cons, List.length_cons, List.length_nil, IGs.len, replicate_s, replicate_0, List.map_cons, List.map_nil, List.cons_append, List.nil_append, Nat.reduceSub, Nat.reduceAdd, true_and, put_same, isLst, idx_tup, idx_rol, idx_ref, set_refI, atI_0, atI_1, atI_2, atI_3, ixN_0, ixN_1, ixN_2, ixN_3, put_put, decide_eq_true_eq, len_tup, len_rol, len_ref, isa_tupT, isa_intI, isa_intB, isa_blB, isa_blI, isa_refL, isNon_int, isNon_tup, isNon_non, nc0, nc1, nc2, nc3, nc4, bff, btf, btt, bft, eq_self, decide_true, if_true, if_false, Bool.not_true, Bool.not_false])
def Tap (n : Nat) (o : MO) : Prop := ∃ x y z : Int, o = .lst [.int x, .int y, .int z] ∧ y.natAbs.log2 < 3000000 ∧ 0 ≤ z ∧ z ≤ n
theorem Tap.mono {n m : Nat} {o : MO} (h : Tap n o) (k : n ≤ m) : Tap m o := by
  obtain ⟨x, y, z, a, b, c, d⟩ := h
  exact ⟨x, y, z, a, b, c, by omega⟩
theorem log2_lt_of {n k : Nat} (h : n < 2 ^ k) (hk : 0 < k) : n.log2 < k := by
  by_cases z : n = 0
  · subst z; exact hk
  · exact (Nat.log2_lt z).2 h
structure EncOk {α : Type} [DecidableEq α] (d : Nat) (enc : α → W) : Prop where
  pr : ∀ a, (enc a).pure = true
  ly : ∀ a, (enc a).dat.canLay0 = true
  dp : ∀ a, (enc a).dat.depth ≤ d
  eq : ∀ a b, PyData.eqv (enc a).dat (enc b).dat = decide (a = b)
section
variable {α β γ δ : Type} [DecidableEq α] [DecidableEq β] [DecidableEq γ] [DecidableEq δ] {d : Nat} {e : α → W} {e2 : β → W} {e3 : γ → W} {e4 : δ → W}
theorem EncOk.int : EncOk d W.int := ⟨fun _ => rfl, fun _ => rfl, fun _ => Nat.zero_le _, fun a b => by show (a == b) = _; exact Bool.beq_eq_decide_eq a b⟩
theorem EncOk.prs (h : EncOk d e) (l : List α) : W.pures (l.map e) = true := by
  induction l with
  | nil => rfl
  | cons a l ih => rw [List.map_cons, W.pures, h.pr, ih]; rfl
theorem EncOk.lys (h : EncOk d e) (l : List α) : PyData.canLayAll0 (W.dats (l.map e)) = true := by
  induction l with
  | nil => rfl
  | cons a l ih => rw [List.map_cons, W.dats, PyData.canLayAll0, h.ly, ih]; rfl
theorem EncOk.dps (h : EncOk d e) (l : List α) : PyData.depthAll (W.dats (l.map e)) ≤ d := by
  induction l with
  | nil => exact Nat.zero_le _
  | cons a l ih => rw [List.map_cons, W.dats, PyData.depthAll]; exact Nat.max_le.mpr ⟨h.dp a, ih⟩
theorem EncOk.eqs (h : EncOk d e) : ∀ l m : List α, PyData.eqvAll (W.dats (l.map e)) (W.dats (m.map e)) = decide (l = m)
  | [], [] => by simp [W.dats, PyData.eqvAll]
  | [], _ :: _ => by simp [W.dats, PyData.eqvAll]
  | _ :: _, [] => by simp [W.dats, PyData.eqvAll]
  | a :: l, b :: m => by
    rw [List.map_cons, List.map_cons, W.dats, W.dats, PyData.eqvAll, h.eq, EncOk.eqs h l m, ← Bool.decide_and]
    exact decide_eq_decide.mpr (by rw [List.cons.injEq])
theorem EncOk.list (h : EncOk d e) : EncOk (d + 1) (fun l : List α => W.tup (l.map e)) where
  pr l := by show W.pures _ = true; exact h.prs l
  ly l := by show PyData.canLayAll0 _ = true; exact h.lys l
  dp l := by show PyData.depthAll _ + 1 ≤ d + 1; exact Nat.succ_le_succ (h.dps l)
  eq l m := by show PyData.eqvAll _ _ = _; exact h.eqs l m
theorem EncOk.t2 (h : EncOk d e) (h2 : EncOk d e2) : EncOk (d + 1) (fun p : α × β => W.tup [e p.1, e2 p.2]) where
  pr p := by show ((e p.1).pure && ((e2 p.2).pure && true)) = true; rw [h.pr, h2.pr]; rfl
  ly p := by show ((e p.1).dat.canLay0 && ((e2 p.2).dat.canLay0 && true)) = true; rw [h.ly, h2.ly]; rfl
  dp p := by
    show max (e p.1).dat.depth (max (e2 p.2).dat.depth 0) + 1 ≤ d + 1
    have h1 := h.dp p.1
    have h2 := h2.dp p.2
    omega
  eq p q := by
    show (PyData.eqv (e p.1).dat (e q.1).dat && (PyData.eqv (e2 p.2).dat (e2 q.2).dat && true)) = _
    rw [h.eq, h2.eq, Bool.and_true, ← Bool.decide_and]
    exact decide_eq_decide.mpr (by cases p; cases q; simp)
theorem EncOk.t3 (h : EncOk d e) (h2 : EncOk d e2) (h3 : EncOk d e3) : EncOk (d + 1) (fun p : α × β × γ => W.tup [e p.1, e2 p.2.1, e3 p.2.2]) where
  pr p := by show ((e p.1).pure && ((e2 p.2.1).pure && ((e3 p.2.2).pure && true))) = true; rw [h.pr, h2.pr, h3.pr]; rfl
  ly p := by show ((e p.1).dat.canLay0 && ((e2 p.2.1).dat.canLay0 && ((e3 p.2.2).dat.canLay0 && true))) = true; rw [h.ly, h2.ly, h3.ly]; rfl
  dp p := by
    show max (e p.1).dat.depth (max (e2 p.2.1).dat.depth (max (e3 p.2.2).dat.depth 0)) + 1 ≤ d + 1
    have h1 := h.dp p.1
    have h2 := h2.dp p.2.1
    have h3 := h3.dp p.2.2
    omega
  eq p q := by
    show (PyData.eqv (e p.1).dat (e q.1).dat && (PyData.eqv (e2 p.2.1).dat (e2 q.2.1).dat && (PyData.eqv (e3 p.2.2).dat (e3 q.2.2).dat && true))) = _
    rw [h.eq, h2.eq, h3.eq, Bool.and_true, ← Bool.decide_and, ← Bool.decide_and]
    exact decide_eq_decide.mpr (by obtain ⟨_, _, _⟩ := p; obtain ⟨_, _, _⟩ := q; simp)
theorem EncOk.t4 (h : EncOk d e) (h2 : EncOk d e2) (h3 : EncOk d e3) (h4 : EncOk d e4) : EncOk (d + 1) (fun p : α × β × γ × δ => W.tup [e p.1, e2 p.2.1, e3 p.2.2.1, e4 p.2.2.2]) where
  pr p := by show ((e p.1).pure && ((e2 p.2.1).pure && ((e3 p.2.2.1).pure && ((e4 p.2.2.2).pure && true)))) = true; rw [h.pr, h2.pr, h3.pr, h4.pr]; rfl
  ly p := by show ((e p.1).dat.canLay0 && ((e2 p.2.1).dat.canLay0 && ((e3 p.2.2.1).dat.canLay0 && ((e4 p.2.2.2).dat.canLay0 && true)))) = true; rw [h.ly, h2.ly, h3.ly, h4.ly]; rfl
  dp p := by
    show max (e p.1).dat.depth (max (e2 p.2.1).dat.depth (max (e3 p.2.2.1).dat.depth (max (e4 p.2.2.2).dat.depth 0))) + 1 ≤ d + 1
    have h1 := h.dp p.1
    have h2 := h2.dp p.2.1
    have h3 := h3.dp p.2.2.1
    have h4 := h4.dp p.2.2.2
    omega
  eq p q := by
    show (PyData.eqv (e p.1).dat (e q.1).dat && (PyData.eqv (e2 p.2.1).dat (e2 q.2.1).dat && (PyData.eqv (e3 p.2.2.1).dat (e3 q.2.2.1).dat && (PyData.eqv (e4 p.2.2.2).dat (e4 q.2.2.2).dat && true)))) = _
    rw [h.eq, h2.eq, h3.eq, h4.eq, Bool.and_true, ← Bool.decide_and, ← Bool.decide_and, ← Bool.decide_and]
    exact decide_eq_decide.mpr (by obtain ⟨_, _, _, _⟩ := p; obtain ⟨_, _, _, _⟩ := q; simp)
theorem EncOk.eqOk (h : EncOk d e) (hd : d ≤ 60) (a : α) : (e a).eqOk := ⟨h.pr a, by
  unfold SeqAt.shaped
  rw [h.ly, decide_eq_true (by have := h.dp a; omega)]; rfl⟩
theorem EncOk.eqsOk (h : EncOk d e) (hd : d ≤ 60) (l : List α) : W.eqsOk (l.map e) := ⟨h.prs l, by
  unfold SeqAt.shaped
  have h1 : (PyData.list (W.dats (l.map e))).canLay0 = true := h.lys l
  have h2 : (PyData.list (W.dats (l.map e))).depth ≤ d + 1 := Nat.succ_le_succ (h.dps l)
  rw [h1, decide_eq_true (by omega)]; rfl⟩
theorem EncOk.eqvs (h : EncOk d e) (l m : List α) : W.eqvs (l.map e) (m.map e) = decide (l = m) := h.eqs l m
end
abbrev Sps := List (Int × Int)
abbrev Rg := List (Int × Int × Sps)
def stW (p : Int × Int) : W := .tup [.int p.1, .int p.2]
def spsW (s : Sps) : W := .tup (s.map stW)
def bdW (b : Int × Int × Sps) : W := .tup [.int b.1, .int b.2.1, spsW b.2.2]
def rgW (r : Rg) : W := .tup (r.map bdW)
def Chn {α : Type} (R : α → α → Prop) (l : List α) : Prop := ∀ i a b, l[i]? = some a → l[i + 1]? = some b → R a b
theorem Chn.nil {α : Type} {R : α → α → Prop} : Chn R [] := fun i a b h _ => by simp at h
theorem Chn.one {α : Type} {R : α → α → Prop} {x : α} : Chn R [x] := fun i a b _ h => by simp at h
theorem Chn.snoc {α : Type} {R : α → α → Prop} {l : List α} {x : α} (h : Chn R l) (hx : ∀ a, l.getLast? = some a → R a x) : Chn R (l ++ [x]) := fun i a b h1 h2 => by
  rw [List.getElem?_append] at h1 h2
  by_cases h3 : i + 1 < l.length
  · rw [if_pos h3] at h2
    rw [if_pos (by omega)] at h1
    exact h i a b h1 h2
  · rw [if_neg h3] at h2
    have h4 : i + 1 - l.length = 0 := by
      cases e : i + 1 - l.length with
      | zero => rfl
      | succ n => rw [e] at h2; simp at h2
    rw [h4] at h2
    have h5 : i < l.length := by omega
    rw [if_pos h5] at h1
    cases h2
    refine hx a ?_
    rw [List.getLast?_eq_getElem?, ← h1]
    congr 1
    omega
theorem Chn.last {α : Type} {R : α → α → Prop} {d r : List α} {x y : α} (h : Chn R (d ++ x :: r)) (e : d.getLast? = some y) : R y x := by
  rw [List.getLast?_eq_getElem?] at e
  have hl : d.length ≠ 0 := by
    intro z
    rw [List.length_eq_zero_iff.mp z] at e
    simp at e
  refine h (d.length - 1) y x ?_ ?_
  · rw [List.getElem?_append, if_pos (by omega)]; exact e
  · rw [List.getElem?_append, if_neg (by omega)]
    have : d.length - 1 + 1 - d.length = 0 := by omega
    rw [this]; rfl
theorem Chn.map {α β : Type} {R : α → α → Prop} {T : β → β → Prop} {f : α → β} {l : List α} (h : Chn R l) (hf : ∀ a b, R a b → T (f a) (f b)) : Chn T (l.map f) := fun i a b h1 h2 => by
  rw [List.getElem?_map] at h1 h2
  cases e1 : l[i]? with
  | none => rw [e1] at h1; cases h1
  | some x =>
    cases e2 : l[i + 1]? with
    | none => rw [e2] at h2; cases h2
    | some y =>
      rw [e1] at h1; rw [e2] at h2
      cases h1; cases h2
      exact hf _ _ (h i x y e1 e2)
structure SpOk (s : Sps) : Prop where
  ne : s ≠ []
  len : s.length ≤ 40
  pos : ∀ p ∈ s, p.1 < p.2
  chn : Chn (fun p q => p.2 < q.1) s
structure RgOk (r : Rg) : Prop where
  len : r.length ≤ 40
  bd : ∀ b ∈ r, b.1 < b.2.1 ∧ SpOk b.2.2
  chn : Chn (fun b c => b.2.1 < c.1 ∨ b.2.1 = c.1 ∧ b.2.2 ≠ c.2.2) r
def SpBig (c : Int) (s : Sps) : Prop := ∀ p ∈ s, -c < p.1 ∧ p.2 < c
def RgBig (c : Int) (r : Rg) : Prop := ∀ b ∈ r, -c < b.1 ∧ b.2.1 < c ∧ SpBig c b.2.2
theorem SpBig.snoc {c : Int} {s : Sps} {p : Int × Int} (h : SpBig c s) (h1 : -c < p.1) (h2 : p.2 < c) : SpBig c (s ++ [p]) := fun q hq => by
  rcases List.mem_append.mp hq with e | e
  · exact h q e
  · simp at e; subst e; exact ⟨h1, h2⟩
theorem RgBig.snoc {c : Int} {s : Rg} {p : Int × Int × Sps} (h : RgBig c s) (h1 : -c < p.1) (h2 : p.2.1 < c) (h3 : SpBig c p.2.2) : RgBig c (s ++ [p]) := fun q hq => by
  rcases List.mem_append.mp hq with e | e
  · exact h q e
  · simp at e; subst e; exact ⟨h1, h2, h3⟩
theorem SpBig.mono {c d : Int} {s : Sps} (h : SpBig c s) (k : c ≤ d) : SpBig d s := fun p hp => by have := h p hp; omega
theorem RgBig.mono {c d : Int} {s : Rg} (h : RgBig c s) (k : c ≤ d) : RgBig d s := fun p hp => by
  obtain ⟨h1, h2, h3⟩ := h p hp
  exact ⟨by omega, by omega, h3.mono k⟩
theorem SpOk.one {p : Int × Int} (h : p.1 < p.2) : SpOk [p] := ⟨by simp, by simp, fun q hq => by simp at hq; rw [hq]; exact h, Chn.one⟩
theorem Chn.range {α : Type} {R : α → α → Prop} {f : Nat → α} {n : Nat} (h : ∀ i, R (f i) (f (i + 1))) : Chn R ((List.range n).map f) := fun i a b h1 h2 => by
  rw [List.getElem?_map] at h1 h2
  have e2 : i + 1 < n := by
    by_cases z : i + 1 < n
    · exact z
    · rw [List.getElem?_eq_none (by simp; omega)] at h2; cases h2
  rw [List.getElem?_range (by omega)] at h1
  rw [List.getElem?_range e2] at h2
  cases h1; cases h2
  exact h i
structure SpV (s : Sps) : Prop where
  ne : s ≠ []
  pos : ∀ p ∈ s, p.1 < p.2
  chn : Chn (fun p q => p.2 < q.1) s
structure RgV (r : Rg) : Prop where
  bd : ∀ b ∈ r, b.1 < b.2.1 ∧ SpV b.2.2
  chn : Chn (fun b c => b.2.1 < c.1 ∨ b.2.1 = c.1 ∧ b.2.2 ≠ c.2.2) r
theorem SpOk.v {s : Sps} (h : SpOk s) : SpV s := ⟨h.ne, h.pos, h.chn⟩
theorem RgOk.v {r : Rg} (h : RgOk r) : RgV r := ⟨fun b hb => ⟨(h.bd b hb).1, (h.bd b hb).2.v⟩, h.chn⟩
def sp_law : MSp := fun ws S Q _ => ∃ ns : List Int, ws = [.rol (ns.map W.int)] ∧ ns.length ≤ 63 ∧ (∀ z ∈ ns, z.natAbs.log2 < 2000000) ∧ Q (.bl true) S
theorem bits_log2 {z : Int} (h : Builtin.Int.intBits z ≤ 1048576) : z.natAbs.log2 < 2000000 := by
  by_cases hz : z = 0
  · subst hz; decide
  · unfold Builtin.Int.intBits at h
    rw [if_neg (by simpa using hz)] at h
    omega
theorem lawSp_law : lawSp sp_law := fun ns hl hb => ⟨ns, rfl, hl, fun z hz => bits_log2 (hb z hz), rfl⟩
theorem Chn.tail {α : Type} {R : α → α → Prop} {a : α} {l : List α} (h : Chn R (a :: l)) : Chn R l := fun i x y h1 h2 => h (i + 1) x y (by simpa using h1) (by simpa using h2)
theorem Chn.pw {α : Type} {R T : α → α → Prop} {P : α → Prop} (hT : ∀ a b, R a b → P b → T a b) (tr : ∀ a b c, T a b → T b c → T a c) : ∀ {l : List α}, Chn R l → (∀ x ∈ l, P x) → l.Pairwise T
  | [], _, _ => .nil
  | a :: l, h, hp => by
    have ih := Chn.pw hT tr h.tail fun x hx => hp x (List.mem_cons_of_mem _ hx)
    refine List.pairwise_cons.mpr ⟨fun c hc => ?_, ih⟩
    cases l with
    | nil => cases hc
    | cons b t =>
      have hab : T a b := hT a b (h 0 a b rfl rfl) (hp b (by simp))
      rcases List.mem_cons.mp hc with e | e
      · rw [e]; exact hab
      · exact tr a b c hab ((List.pairwise_cons.mp ih).1 c e)
theorem SpV.pw {s : Sps} (h : SpV s) : s.Pairwise (fun p q => p.2 < q.1 ∧ q.1 < q.2) := h.chn.pw (P := fun p => p.1 < p.2) (fun a b h1 h2 => ⟨h1, h2⟩) (fun a b c h1 h2 => ⟨by omega, h2.2⟩) h.pos
theorem RgV.pw {r : Rg} (h : RgV r) : r.Pairwise (fun p q => p.2.1 ≤ q.1 ∧ q.1 < q.2.1) := h.chn.pw (P := fun p => p.1 < p.2.1) (fun a b h1 h2 => ⟨by rcases h1 with h1 | h1 <;> omega, h2⟩) (fun a b c h1 h2 => ⟨by omega, h2.2⟩) fun b hb => (h.bd b hb).1
def inS (s : Sps) (x : Int) : Prop := ∃ p ∈ s, p.1 ≤ x ∧ x < p.2
def inR (r : Rg) (x y : Int) : Prop := ∃ b ∈ r, b.1 ≤ y ∧ y < b.2.1 ∧ inS b.2.2 x
theorem inS_cons {p : Int × Int} {s : Sps} {x : Int} : inS (p :: s) x ↔ (p.1 ≤ x ∧ x < p.2) ∨ inS s x := by
  unfold inS
  constructor
  · rintro ⟨q, hq, h⟩
    rcases List.mem_cons.mp hq with e | e
    · subst e; exact .inl h
    · exact .inr ⟨q, e, h⟩
  · rintro (h | ⟨q, hq, h⟩)
    · exact ⟨p, by simp, h⟩
    · exact ⟨q, by simp [hq], h⟩
theorem inS_nil {x : Int} : ¬ inS [] x := fun ⟨_, h, _⟩ => by cases h
theorem inR_cons {p : Int × Int × Sps} {s : Rg} {x y : Int} : inR (p :: s) x y ↔ (p.1 ≤ y ∧ y < p.2.1 ∧ inS p.2.2 x) ∨ inR s x y := by
  unfold inR
  constructor
  · rintro ⟨q, hq, h⟩
    rcases List.mem_cons.mp hq with e | e
    · subst e; exact .inl h
    · exact .inr ⟨q, e, h⟩
  · rintro (h | ⟨q, hq, h⟩)
    · exact ⟨p, by simp, h⟩
    · exact ⟨q, by simp [hq], h⟩
theorem inR_nil {x y : Int} : ¬ inR [] x y := fun ⟨_, h, _⟩ => by cases h
def PwS (s : Sps) : Prop := (∀ p ∈ s, p.1 < p.2) ∧ s.Pairwise fun p q => p.2 < q.1
theorem PwS.tail {p : Int × Int} {s : Sps} (h : PwS (p :: s)) : PwS s := ⟨fun q hq => h.1 q (by simp [hq]), (List.pairwise_cons.mp h.2).2⟩
theorem PwS.off {p : Int × Int} {s : Sps} (h : PwS (p :: s)) {x : Int} (hx : inS s x) : p.2 < x := by
  obtain ⟨q, hq, h1, _⟩ := hx
  have := (List.pairwise_cons.mp h.2).1 q hq
  omega
theorem PwS.unique : ∀ {s t : Sps}, PwS s → PwS t → (∀ x, inS s x ↔ inS t x) → s = t
  | [], [], _, _, _ => rfl
  | [], q :: t, _, ht, e => (inS_nil ((e q.1).mpr (inS_cons.mpr (.inl ⟨by omega, ht.1 q (by simp)⟩)))).elim
  | p :: s, [], hs, _, e => (inS_nil ((e p.1).mp (inS_cons.mpr (.inl ⟨by omega, hs.1 p (by simp)⟩)))).elim
  | p :: s, q :: t, hs, ht, e => by
    have hp := hs.1 p (by simp)
    have hq := ht.1 q (by simp)
    have e1 : p.1 = q.1 := by
      have h1 := inS_cons.mp ((e p.1).mp (inS_cons.mpr (.inl ⟨by omega, hp⟩)))
      have h2 := inS_cons.mp ((e q.1).mpr (inS_cons.mpr (.inl ⟨by omega, hq⟩)))
      have h1' : q.1 ≤ p.1 := by
        rcases h1 with h | h
        · exact h.1
        · have := ht.off h; omega
      have h2' : p.1 ≤ q.1 := by
        rcases h2 with h | h
        · exact h.1
        · have := hs.off h; omega
      omega
    have e2 : p.2 = q.2 := by
      have h1 : ¬ p.2 < q.2 := fun h => by
        rcases inS_cons.mp ((e p.2).mpr (inS_cons.mpr (.inl ⟨by omega, h⟩))) with h3 | h3
        · omega
        · have := hs.off h3; omega
      have h2 : ¬ q.2 < p.2 := fun h => by
        rcases inS_cons.mp ((e q.2).mp (inS_cons.mpr (.inl ⟨by omega, h⟩))) with h3 | h3
        · omega
        · have := ht.off h3; omega
      omega
    have e3 : s = t := PwS.unique hs.tail ht.tail fun x => by
      constructor
      · intro h
        have h0 := hs.off h
        rcases inS_cons.mp ((e x).mp (inS_cons.mpr (.inr h))) with h3 | h3
        · omega
        · exact h3
      · intro h
        have h0 := ht.off h
        rcases inS_cons.mp ((e x).mpr (inS_cons.mpr (.inr h))) with h3 | h3
        · omega
        · exact h3
    rw [e3, Prod.ext e1 e2]
theorem SpV.pws {s : Sps} (h : SpV s) : PwS s := ⟨h.pos, h.pw.imp fun {a b} h => h.1⟩
theorem Chn.ofPw {α : Type} {R : α → α → Prop} {l : List α} (h : l.Pairwise R) : Chn R l := fun i a b h1 h2 => by
  obtain ⟨k1, rfl⟩ := List.getElem?_eq_some_iff.mp h1
  obtain ⟨k2, rfl⟩ := List.getElem?_eq_some_iff.mp h2
  exact List.pairwise_iff_getElem.mp h i (i + 1) k1 k2 (by omega)
theorem PwS.v {s : Sps} (h : PwS s) (hn : s ≠ []) : SpV s := ⟨hn, h.1, Chn.ofPw h.2⟩
theorem SpV.some {s : Sps} (h : SpV s) : ∃ x, inS s x := by
  obtain ⟨p, hp⟩ := List.exists_mem_of_ne_nil s h.ne
  exact ⟨p.1, p, hp, by omega, h.pos p hp⟩
theorem RgV.tail {b : Int × Int × Sps} {r : Rg} (h : RgV (b :: r)) : RgV r := ⟨fun c hc => h.bd c (by simp [hc]), h.chn.tail⟩
theorem RgV.off {b : Int × Int × Sps} {r : Rg} (h : RgV (b :: r)) {x y : Int} (hx : inR r x y) : b.2.1 ≤ y := by
  obtain ⟨c, hc, h1, _⟩ := hx
  have := (List.pairwise_cons.mp h.pw).1 c hc
  omega
theorem RgV.unique : ∀ {r s : Rg}, RgV r → RgV s → (∀ x y, inR r x y ↔ inR s x y) → r = s
  | [], [], _, _, _ => rfl
  | [], c :: s, _, hs, e => by
    obtain ⟨x, hx⟩ := (hs.bd c (by simp)).2.some
    exact (inR_nil ((e x c.1).mpr (inR_cons.mpr (.inl ⟨by omega, (hs.bd c (by simp)).1, hx⟩)))).elim
  | b :: r, [], hr, _, e => by
    obtain ⟨x, hx⟩ := (hr.bd b (by simp)).2.some
    exact (inR_nil ((e x b.1).mp (inR_cons.mpr (.inl ⟨by omega, (hr.bd b (by simp)).1, hx⟩)))).elim
  | b :: r, c :: s, hr, hs, e => by
    obtain ⟨hb, vb⟩ := hr.bd b (by simp)
    obtain ⟨hc, vc⟩ := hs.bd c (by simp)
    have e1 : b.1 = c.1 := by
      obtain ⟨x, hx⟩ := vb.some
      obtain ⟨z, hz⟩ := vc.some
      have h1 : c.1 ≤ b.1 := by
        rcases inR_cons.mp ((e x b.1).mp (inR_cons.mpr (.inl ⟨by omega, hb, hx⟩))) with h | h
        · exact h.1
        · have := hs.off h; omega
      have h2 : b.1 ≤ c.1 := by
        rcases inR_cons.mp ((e z c.1).mpr (inR_cons.mpr (.inl ⟨by omega, hc, hz⟩))) with h | h
        · exact h.1
        · have := hr.off h; omega
      omega
    have e3 : b.2.2 = c.2.2 := PwS.unique vb.pws vc.pws fun x => by
      constructor
      · intro h
        rcases inR_cons.mp ((e x b.1).mp (inR_cons.mpr (.inl ⟨by omega, hb, h⟩))) with h3 | h3
        · exact h3.2.2
        · have := hs.off h3; omega
      · intro h
        rcases inR_cons.mp ((e x b.1).mpr (inR_cons.mpr (.inl ⟨by omega, by omega, h⟩))) with h3 | h3
        · exact h3.2.2
        · have := hr.off h3; omega
    have no : ∀ (b c : Int × Int × Sps) (r s : Rg), RgV (b :: r) → RgV (c :: s) → (∀ x y, inR (b :: r) x y ↔ inR (c :: s) x y) → b.1 = c.1 → b.2.2 = c.2.2 → ¬ b.2.1 < c.2.1 := fun b c r s hr hs e e1 e3 h => by
      obtain ⟨hb, vb⟩ := hr.bd b (by simp)
      obtain ⟨hc, vc⟩ := hs.bd c (by simp)
      have row : ∀ x, inS c.2.2 x ↔ inR r x b.2.1 := fun x => by
        constructor
        · intro hx
          rcases inR_cons.mp ((e x b.2.1).mpr (inR_cons.mpr (.inl ⟨by omega, h, hx⟩))) with h3 | h3
          · omega
          · exact h3
        · intro hx
          rcases inR_cons.mp ((e x b.2.1).mp (inR_cons.mpr (.inr hx))) with h3 | h3
          · exact h3.2.2
          · have := hs.off h3; omega
      cases r with
      | nil =>
        obtain ⟨x, hx⟩ := vc.some
        exact inR_nil ((row x).mp hx)
      | cons d r =>
        obtain ⟨hd, vd⟩ := hr.bd d (by simp)
        have hbd := hr.chn 0 b d rfl rfl
        have hdy : d.1 = b.2.1 := by
          obtain ⟨x, hx⟩ := vc.some
          rcases inR_cons.mp ((row x).mp hx) with h3 | h3
          · rcases hbd with h4 | h4 <;> omega
          · have := hr.tail.off h3; rcases hbd with h4 | h4 <;> omega
        rcases hbd with h4 | ⟨_, h4⟩
        · omega
        · refine h4 ?_
          rw [e3]
          refine PwS.unique vc.pws vd.pws fun x => ?_
          rw [row x, inR_cons]
          constructor
          · rintro (h5 | h5)
            · exact h5.2.2
            · have := hr.tail.off h5; omega
          · intro h5; exact .inl ⟨by omega, by omega, h5⟩
    have e2 : b.2.1 = c.2.1 := by
      have h1 := no b c r s hr hs e e1 e3
      have h2 := no c b s r hs hr (fun x y => (e x y).symm) e1.symm e3.symm
      omega
    have e4 : r = s := RgV.unique hr.tail hs.tail fun x y => by
      constructor
      · intro h
        have h0 := hr.off h
        rcases inR_cons.mp ((e x y).mp (inR_cons.mpr (.inr h))) with h3 | h3
        · omega
        · exact h3
      · intro h
        have h0 := hs.off h
        rcases inR_cons.mp ((e x y).mpr (inR_cons.mpr (.inr h))) with h3 | h3
        · omega
        · exact h3
    obtain ⟨b1, b2, b3⟩ := b
    obtain ⟨c1, c2, c3⟩ := c
    dsimp only at e1 e2 e3
    rw [e4, e1, e2, e3]
theorem PwS.snoc {t : Sps} {p : Int × Int} : PwS (t ++ [p]) ↔ PwS t ∧ p.1 < p.2 ∧ ∀ q ∈ t, q.2 < p.1 := by
  unfold PwS
  rw [List.pairwise_append]
  constructor
  · rintro ⟨h1, h2, _, h3⟩
    exact ⟨⟨fun q hq => h1 q (by simp [hq]), h2⟩, h1 p (by simp), fun q hq => h3 q hq p (by simp)⟩
  · rintro ⟨⟨h1, h2⟩, h3, h4⟩
    refine ⟨fun q hq => ?_, h2, List.pairwise_singleton _ _, fun q hq r hr => ?_⟩
    · rcases List.mem_append.mp hq with e | e
      · exact h1 q e
      · simp at e; rw [e]; exact h3
    · simp at hr; rw [hr]; exact h4 q hq
theorem PwS.nil : PwS [] := ⟨fun p h => (by cases h), .nil⟩
theorem RgV.nil : RgV [] := ⟨fun b h => (by cases h), Chn.nil⟩
theorem Chn.init {α : Type} {R : α → α → Prop} {l : List α} {x : α} (h : Chn R (l ++ [x])) : Chn R l := fun i a b h1 h2 => by
  have k1 := (List.getElem?_eq_some_iff.mp h1).1
  have k2 := (List.getElem?_eq_some_iff.mp h2).1
  exact h i a b (by rw [List.getElem?_append_left k1]; exact h1) (by rw [List.getElem?_append_left k2]; exact h2)
theorem RgV.init {t : Rg} {b : Int × Int × Sps} (h : RgV (t ++ [b])) : RgV t := ⟨fun c hc => h.bd c (by simp [hc]), h.chn.init⟩
theorem RgV.snoc {t : Rg} {b : Int × Int × Sps} (h : RgV t) (hb : b.1 < b.2.1) (hv : SpV b.2.2) (hl : ∀ c, t.getLast? = some c → c.2.1 < b.1 ∨ c.2.1 = b.1 ∧ c.2.2 ≠ b.2.2) : RgV (t ++ [b]) := ⟨fun c hc => by
  rcases List.mem_append.mp hc with e | e
  · exact h.bd c e
  · simp at e; rw [e]; exact ⟨hb, hv⟩, h.chn.snoc hl⟩
def edges (l : List (Int × Int × List W)) : List Int := l.flatMap fun t => [t.1, t.2.1]
theorem Sub.new {S S' : Sto} {q : Addr} {o : MO} (h : Sub S S') (hq : S' q = none) : Sub S (M3.put S' q o) := h.trans (Sub.put hq)
theorem Sub.upd {S S' : Sto} {q : Addr} {o : MO} (h : Sub S S') (hq : S q = none) : Sub S (M3.put S' q o) := fun a u e => by
  have : a ≠ q := fun z => by subst z; rw [hq] at e; cases e
  rw [put_ne this]; exact h a u e
theorem Sub.none {S S' : Sto} {q : Addr} (h : Sub S S') (hq : S' q = none) : S q = none := by
  cases e : S q with
  | none => rfl
  | some o => rw [h q o e] at hq; cases hq
abbrev Bx := Int × Int × Int × Int
def bxW (b : Bx) : W := .tup [.int b.1, .int b.2.1, .int b.2.2.1, .int b.2.2.2]
def inB (b : Bx) (x y : Int) : Prop := b.1 ≤ x ∧ x < b.1 + b.2.2.1 ∧ b.2.1 ≤ y ∧ y < b.2.1 + b.2.2.2
def wide (b : Bx) : Bool := decide (0 < b.2.2.1) && decide (0 < b.2.2.2)
def rowOf (b : Bx) : Bx := (b.2.1, b.2.1 + b.2.2.2, b.1, b.1 + b.2.2.1)
def good (bx : List Bx) : List Bx := (bx.filter wide).map rowOf
structure IsReg (bx : List Bx) (r : Rg) : Prop where
  v : RgV r
  cells : ∀ x y, inR r x y ↔ ∃ b ∈ bx, inB b x y
  len : r.length ≤ 2 * bx.length
  lens : ∀ b ∈ r, b.2.2.length ≤ bx.length
theorem IsReg.unique {bx bx' : List Bx} {r s : Rg} (h : IsReg bx r) (h' : IsReg bx' s) (e : ∀ x y, (∃ b ∈ bx, inB b x y) ↔ ∃ b ∈ bx', inB b x y) : r = s :=
  h.v.unique h'.v fun x y => by rw [h.cells, h'.cells, e]
theorem cutW_drop1 {α : Type} {l : List α} : cutW l (some 1) none = l.drop 1 := by
  unfold cutW HT.sIx
  dsimp only
  rw [if_neg (by decide)]
  cases l with
  | nil => rfl
  | cons a l =>
    have e : min (Int.toNat 1) (a :: l).length = 1 := by simp
    rw [e]
    simp
theorem nodup_len : ∀ {l m : List Int}, l.Pairwise (· < ·) → (∀ x ∈ l, x ∈ m) → l.length ≤ m.length
  | [], _, _, _ => Nat.zero_le _
  | a :: l, m, h, hs => by
    obtain ⟨h1, h2⟩ := List.pairwise_cons.mp h
    have ha := hs a (by simp)
    have ih := nodup_len (m := m.erase a) h2 fun x hx => (List.mem_erase_of_ne (by have := h1 x hx; omega)).mpr (hs x (by simp [hx]))
    rw [List.length_erase_of_mem ha] at ih
    have := List.length_pos_of_mem ha
    rw [List.length_cons]
    omega
theorem mulOk_of {i j : Int} (h1 : -(10 ^ 70) < i) (h2 : i < 10 ^ 70) (h3 : -(10 ^ 70) < j) (h4 : j < 10 ^ 70) : mulOk i j := by
  unfold mulOk
  have e1 : i.natAbs.log2 < 300 := log2_lt_of (by omega) (by decide)
  have e2 : j.natAbs.log2 < 300 := log2_lt_of (by omega) (by decide)
  omega
theorem CompG.inv {α : Type} {G : Gs} {σ : Envr} {g : IG} {e : IE} {own : List Nat} {xs : List W} {st : Sto → Prop} {S1 : Sto} {Q : List W → Sto → Prop} (l : List α) (enc : α → W) (hx : xs = l.map enc)
    (I : List α → List W → Sto → Prop) (S2 : Sto) (sub : Sub S2 S1) (h0 : I [] [] S2)
    (step : ∀ d a r acc S', l = d ++ a :: r → I d acc S' → st S' ∧ wpG G g (enc a) (wipeW σ own) S' (fun σ' S4 => wpE G e σ' S4 (fun y S5 => acc.length < sizeLine ∧ I (d ++ [a]) (acc ++ [y]) S5) noX) noX)
    (fin : ∀ acc S', I l acc S' → st S' ∧ Q acc S') : CompG G e g own σ xs st S1 Q := by
  subst hx
  refine ⟨fun k acc S' => I (l.take k) acc S', ⟨S2, sub, by simpa using h0⟩, ?_, ?_⟩
  · intro k acc S' x hx hI
    rw [List.getElem?_map] at hx
    cases e : l[k]? with
    | none => rw [e] at hx; cases hx
    | some a =>
      rw [e] at hx
      cases hx
      obtain ⟨hk, ea⟩ := List.getElem?_eq_some_iff.mp e
      have e2 : l.take (k + 1) = l.take k ++ [a] := by rw [List.take_succ, e]; rfl
      have h := step (l.take k) a (l.drop (k + 1)) acc S' (by rw [← ea, ← List.drop_eq_getElem_cons hk, List.take_append_drop]) hI
      rw [← e2] at h
      exact h
  · intro acc S' hI
    rw [List.length_map, List.take_length] at hI
    exact fin acc S' hI
theorem cmp_eqB {a b : Bool} {Q : Bool → Prop} : cmpW .eq (.bl a) (.bl b) Q = Q (a == b) :=
  propext ⟨fun ⟨_, _, h⟩ => h, fun h => ⟨⟨rfl, rfl⟩, ⟨rfl, rfl⟩, h⟩⟩
theorem cmp_neB {a b : Bool} {Q : Bool → Prop} : cmpW .ne (.bl a) (.bl b) Q = Q (!(a == b)) :=
  propext ⟨fun ⟨_, _, h⟩ => h, fun h => ⟨⟨rfl, rfl⟩, ⟨rfl, rfl⟩, h⟩⟩
abbrev Rw := Int × Int × List W
structure Behind (l : List Rw) (i : Nat) (z : Int) (k : Nat) : Prop where
  lo : i ≤ k
  hi : k ≤ l.length
  ahead : ∀ (j : Nat) t, i ≤ j → j < k → l[j]? = some t → t.2.1 ≤ z
  at' : ∀ t, l[k]? = some t → z < t.2.1
def cov (l : List Rw) (k : Nat) (z : Int) : Bool := match l[k]? with
  | some t => decide (t.1 ≤ z)
  | none => false
def rwR (r : Rg) : List Rw := r.map fun b => (b.1, b.2.1, [spsW b.2.2])
theorem intsOf_ints (l : List Int) : intsOf (l.map W.int) = some l := by
  induction l with
  | nil => rfl
  | cons a l ih => rw [List.map_cons, intsOf, ih]; rfl
abbrev Fp := Addr → Prop
structure Own (F : Fp) (S : Sto) (F' : Fp) (S' : Sto) : Prop where
  fr : ∀ q o, ¬ F q → S q = some o → S' q = some o
  nw : ∀ q, F' q → F q ∨ S q = none
section
variable {F F' F'' : Fp} {S S' S'' : Sto} {p q : Addr} {o : MO}
theorem Own.refl (F : Fp) (S : Sto) : Own F S F S := ⟨fun _ _ _ h => h, fun _ h => .inl h⟩
theorem Own.trans (h : Own F S F' S') (k : Own F' S' F'' S'') : Own F S F'' S'' := by
  refine ⟨fun q o n e => k.fr q o (fun n' => ?_) (h.fr q o n e), fun q n => ?_⟩
  · rcases h.nw q n' with z | z
    · exact n z
    · rw [z] at e; cases e
  · rcases k.nw q n with z | z
    · exact h.nw q z
    · by_cases hF : F q
      · exact .inl hF
      · cases e : S q with
        | none => exact .inr rfl
        | some o => have := h.fr q o hF e; rw [this] at z; cases z
theorem Own.sub (h : Own F S F' S') (k : Sub S' S'') : Own F S F' S'' := ⟨fun q o n e => k q o (h.fr q o n e), h.nw⟩
theorem Own.of_sub (k : Sub S S') : Own F S F S' := (Own.refl F S).sub k
theorem Own.at (h : Own F S F' S') (n : ¬ F q) (e : S q = some o) : S' q = some o := h.fr q o n e
theorem Own.no (h : Own F S F' S') (n : ¬ F q) (e : S q = some o) : ¬ F' q := fun k => (h.nw q k).elim n (fun z => by rw [z] at e; cases e)
theorem Own.put (h : F p) : Own F S F (put S p o) := ⟨fun q u n e => by
  rw [put_ne (fun z => n (by rw [z]; exact h))]; exact e, fun _ h => .inl h⟩
theorem Own.new (h : S p = none) : Own F S (fun q => F q ∨ q = p) (M3.put S p o) := ⟨fun q u n e => Sub.put h q u e, fun q k => k.elim .inl (fun z => .inr (z ▸ h))⟩
theorem Own.wide (h : Own F S F S') (k : ∀ q, F q → F'' q) : Own F'' S F'' S' := ⟨fun q o n e => h.fr q o (fun z => n (k q z)) e, fun q h => .inl h⟩
theorem Own.less (h : Own F S F' S') (k : ∀ q, F'' q → F' q) : Own F S F'' S' := ⟨h.fr, fun q n => h.nw q (k q n)⟩
theorem Own.more (h : Own F S F' S') (k : ∀ q, F q → F'' q) : Own F'' S F' S' := ⟨fun q o n e => h.fr q o (fun z => n (k q z)) e, fun q n => (h.nw q n).imp (k q) id⟩
end
structure Lay {ρ : Type} (S : Sto) (ok : ρ → Prop) (cont : ρ → MO) (ad : ρ → Addr) : Prop where
  at_ : ∀ x, ok x → S (ad x) = some (cont x)
  inj : ∀ x y, ok x → ok y → ad x = ad y → x = y
section
variable {ρ : Type} {S S' : Sto} {ok ok' : ρ → Prop} {cont cont' : ρ → MO} {ad ad' : ρ → Addr}
theorem Lay.put (h : Lay S ok cont ad) {x : ρ} (hx : ok x) (hc : ∀ y, ok y → y ≠ x → cont' y = cont y) : Lay (M3.put S (ad x) (cont' x)) ok cont' ad := by
  refine ⟨fun y hy => ?_, h.inj⟩
  by_cases e : y = x
  · subst e; exact put_same
  · rw [put_ne (fun z => e (h.inj y x hy hx z)), h.at_ y hy, hc y hy e]
theorem Lay.sub (h : Lay S ok cont ad) (k : Sub S S') : Lay S' ok cont ad := ⟨fun x hx => k _ _ (h.at_ x hx), h.inj⟩
theorem Lay.own {F F' : Fp} (h : Lay S ok cont ad) (k : Own F S F' S') (n : ∀ x, ok x → ¬ F (ad x)) : Lay S' ok cont ad := ⟨fun x hx => k.at (n x hx) (h.at_ x hx), h.inj⟩
theorem Lay.ext {T : Sto} {nw : ρ → Prop} (h : Lay S ok cont ad) (hT : ∀ x, ok x → T (ad x) ≠ none) (hok : ∀ x, ok' x → (ok x ∧ ad' x = ad x ∧ cont' x = cont x) ∨ (nw x ∧ S (ad' x) = some (cont' x) ∧ T (ad' x) = none))
    (hn : ∀ x y, nw x → nw y → ok' x → ok' y → ad' x = ad' y → x = y) : Lay S ok' cont' ad' := by
  refine ⟨fun x hx => ?_, fun x y hx hy e => ?_⟩
  · rcases hok x hx with ⟨a, b, c⟩ | ⟨a, b, c⟩
    · rw [b, c]; exact h.at_ x a
    · exact b
  · rcases hok x hx with ⟨a, b, c⟩ | ⟨a, b, c⟩ <;> rcases hok y hy with ⟨a', b', c'⟩ | ⟨a', b', c'⟩
    · exact h.inj x y a a' (by rw [← b, ← b', e])
    · exact (hT x a (by rw [← b, e, c'])).elim
    · exact (hT y a' (by rw [← b', ← e, c])).elim
    · exact hn x y a a' hx hy e
end
theorem CompG.lists {G : Gs} {σ : Envr} {Q : List W → Sto → Prop} {g : IG} {xs : List W} {st : Sto → Prop} {S1 : Sto} {α : Type} {e : IE} {own : List Nat} (l : List α) (enc : α → W) (f : α → List W) (hx : xs = l.map enc) (hl : l.length ≤ 16777216) (hst : ∀ S', Sub S1 S' → st S')
    (h : ∀ a ∈ l, ∀ S3, Sub S1 S3 → ∀ Q' : WQ, (∀ r, S3 r = none → Q' (.ref r) (put S3 r (.lst (f a)))) → wpG G g (enc a) (wipeW σ own) S3 (fun σ' S4 => wpE G e σ' S4 Q' noX) noX)
    (hq : ∀ (rs : List Addr) S', rs.length = l.length → rs.Nodup → (∀ r ∈ rs, S1 r = none) → Sub S1 S' → (∀ (i : Nat) (r : Addr) (a : α), rs[i]? = some r → l[i]? = some a → S' r = some (.lst (f a))) → Q (rs.map .ref) S') : CompG G e g own σ xs st S1 Q := by
  subst hx
  refine ⟨fun k acc S3 => ∃ rs : List Addr, acc = rs.map W.ref ∧ rs.length = k ∧ k ≤ l.length ∧ rs.Nodup ∧ (∀ r ∈ rs, S1 r = none) ∧ Sub S1 S3 ∧ ∀ (i : Nat) (r : Addr) (a : α), rs[i]? = some r → l[i]? = some a → S3 r = some (.lst (f a)),
    ⟨S1, Sub.refl _, [], rfl, rfl, Nat.zero_le _, List.nodup_nil, (fun r hr => by cases hr), Sub.refl _, (fun i r a hr => by cases hr)⟩, ?_, ?_⟩
  · rintro k acc S3 x hx ⟨rs, rfl, rfl, hk, nd, hn, hs, hr⟩
    rw [List.getElem?_map] at hx
    cases e : l[rs.length]? with
    | none => rw [e] at hx; cases hx
    | some a =>
      rw [e] at hx
      cases hx
      have hlt := (List.getElem?_eq_some_iff.mp e).1
      refine ⟨hst S3 hs, h a (List.mem_of_getElem? e) S3 hs _ fun r hrn => ⟨by rw [List.length_map, sizeLine_val]; omega, rs ++ [r], by simp, by simp, hlt, ?_, ?_, hs.new hrn, ?_⟩⟩
      · rw [List.nodup_append]
        refine ⟨nd, by simp, fun b hb c hc => ?_⟩
        rw [List.mem_singleton] at hc
        subst hc
        rintro rfl
        obtain ⟨i, hi⟩ := List.getElem?_of_mem hb
        have hlt2 := (List.getElem?_eq_some_iff.mp hi).1
        have := hr i b _ hi (List.getElem?_eq_getElem (by omega))
        rw [hrn] at this; cases this
      · intro b hb
        rw [List.mem_append, List.mem_singleton] at hb
        rcases hb with z | z
        · exact hn b z
        · exact z ▸ hs.none hrn
      · intro i b c hi hc
        by_cases hlt2 : i < rs.length
        · rw [List.getElem?_append_left hlt2] at hi
          exact Sub.put hrn _ _ (hr i b c hi hc)
        · have : i = rs.length := by
            have := (List.getElem?_eq_some_iff.mp hi).1
            rw [List.length_append, List.length_singleton] at this
            omega
          subst this
          rw [List.getElem?_append_right (Nat.le_refl _), Nat.sub_self] at hi
          cases hi
          rw [e] at hc
          cases hc
          exact put_same
  · rintro acc S3 ⟨rs, rfl, hk, _, nd, hn, hs, hr⟩
    rw [List.length_map] at hk
    exact ⟨hst S3 hs, hq rs S3 hk nd hn hs hr⟩
def SgOk (c : Str) : Prop := ∃ k, c = ⟨#[k]⟩ ∧ k < 1114112
def txt (r : List Str) : Str := Txt.join "" r
theorem SgOk.of {s : Str} (h : s.length = 1) (k : SeqAt.shaped (W.str s).dat = true) : SgOk s := by
  obtain ⟨c⟩ := s
  have h1 : c.size = 1 := h
  obtain ⟨a, rfl⟩ := Array.size_eq_one_iff.mp h1
  refine ⟨a, rfl, ?_⟩
  unfold SeqAt.shaped at k
  rw [Bool.and_eq_true] at k
  have k2 : ((#[a] : Array Nat).all (· < 0x110000)) = true := k.1
  simpa using k2
theorem SgOk.len {c : Str} (h : SgOk c) : c.length = 1 := by obtain ⟨k, rfl, _⟩ := h; rfl
theorem foldl_cps : ∀ (r : List Str) (acc : Array Nat), (r.foldl (fun acc p => acc ++ (Str.cps "") ++ p.cps) acc).toList = acc.toList ++ r.flatMap fun p => p.cps.toList
  | [], acc => by simp
  | p :: r, acc => by
    rw [List.foldl_cons, foldl_cps r, List.flatMap_cons]
    have e : (Str.cps "") = #[] := by decide +kernel
    rw [e]
    simp
theorem txt_cps (r : List Str) : (txt r).cps.toList = r.flatMap fun p => p.cps.toList := by
  cases r with
  | nil => decide +kernel
  | cons p r =>
    show (List.foldl (fun acc p => acc ++ (Str.cps "") ++ p.cps) p.cps r).toList = _
    rw [foldl_cps, List.flatMap_cons]
theorem Str.ext_l {a b : Str} (h : a.cps.toList = b.cps.toList) : a = b := by
  obtain ⟨a⟩ := a; obtain ⟨b⟩ := b
  congr 1
  exact Array.toList_inj.mp h
theorem txt_len {r : List Str} (h : ∀ c ∈ r, SgOk c) : (txt r).length = r.length := by
  have e : (txt r).length = ((txt r).cps.toList).length := rfl
  rw [e, txt_cps]
  induction r with
  | nil => rfl
  | cons c r ih =>
    rw [List.flatMap_cons, List.length_append, List.length_cons, ih (fun d hd => h d (List.mem_cons_of_mem _ hd)) (by rfl)]
    obtain ⟨k, rfl, _⟩ := h c (List.mem_cons_self ..)
    simp; omega
theorem txt_shaped {r : List Str} (h : ∀ c ∈ r, SgOk c) : SeqAt.shaped (W.str (txt r)).dat = true := by
  unfold SeqAt.shaped
  rw [Bool.and_eq_true]
  refine ⟨?_, rfl⟩
  show ((txt r).cps.all (· < 0x110000)) = true
  rw [← Array.all_toList, txt_cps, List.all_eq_true]
  intro k hk
  rw [List.mem_flatMap] at hk
  obtain ⟨c, hc, hk⟩ := hk
  obtain ⟨j, rfl, hj⟩ := h c hc
  simp at hk
  subst hk
  simpa using hj
theorem SgOk.shaped {c : Str} (h : SgOk c) : SeqAt.shaped (W.str c).dat = true := by
  obtain ⟨k, rfl, hk⟩ := h
  unfold SeqAt.shaped
  rw [Bool.and_eq_true]
  refine ⟨?_, rfl⟩
  show ((#[k] : Array Nat).all (· < 0x110000)) = true
  simpa using hk
theorem strsOf_map (r : List Str) : strsOf (r.map W.str) = some r := by
  induction r with
  | nil => rfl
  | cons c r ih => simp only [List.map_cons, strsOf, ih]; rfl
theorem join_row {r : List Str} {Q : W → Prop} (h : ∀ c ∈ r, SgOk c) (hl : r.length ≤ 10000000) (hq : Q (.str (txt r))) : joinW (.str "") (r.map W.str) Q := by
  unfold joinW
  rw [strsOf_map]
  refine ⟨?_, hq⟩
  unfold joinLen
  have e0 : (("" : Str)).length = 0 := by decide +kernel
  rw [e0, Nat.mul_zero, Nat.add_zero]
  have : (r.map fun y => y.length).sum = r.length := by
    clear hq hl
    induction r with
    | nil => rfl
    | cons c r ih =>
      rw [List.map_cons, List.sum_cons, ih (fun d hd => h d (List.mem_cons_of_mem _ hd)), (h c (List.mem_cons_self ..)).len, List.length_cons]; omega
  omega
structure ShW (d : Nat) (w : W) : Prop where
  pr : w.pure = true
  ly : w.dat.canLay0 = true
  dp : w.dat.depth ≤ d
theorem ShW.mono {d d' : Nat} {w : W} (h : ShW d w) (k : d ≤ d') : ShW d' w := ⟨h.pr, h.ly, Nat.le_trans h.dp k⟩
theorem ShW.int {d : Nat} {i : Int} : ShW d (.int i) := ⟨rfl, rfl, Nat.zero_le _⟩
theorem ShW.bl {d : Nat} {i : Bool} : ShW d (.bl i) := ⟨rfl, rfl, Nat.zero_le _⟩
theorem ShW.non {d : Nat} : ShW d .non := ⟨rfl, rfl, Nat.zero_le _⟩
theorem ShW.str {d : Nat} {s : Str} (h : SeqAt.shaped (W.str s).dat = true) : ShW d (.str s) := ⟨rfl, SeqAt.canLay_of_shaped h, Nat.zero_le _⟩
theorem ShW.alls {d : Nat} : ∀ {ws : List W}, (∀ w ∈ ws, ShW d w) → W.pures ws = true ∧ PyData.canLayAll0 (W.dats ws) = true ∧ PyData.depthAll (W.dats ws) ≤ d
  | [], _ => ⟨rfl, rfl, Nat.zero_le _⟩
  | w :: ws, h => by
    obtain ⟨a, b, c⟩ := ShW.alls (ws := ws) fun v hv => h v (List.mem_cons_of_mem _ hv)
    have hw := h w (List.mem_cons_self ..)
    refine ⟨?_, ?_, ?_⟩
    · rw [W.pures, hw.pr, a]; rfl
    · rw [W.dats, PyData.canLayAll0, hw.ly, b]; rfl
    · rw [W.dats, PyData.depthAll]; exact Nat.max_le.mpr ⟨hw.dp, c⟩
theorem ShW.tup {d : Nat} {ws : List W} (h : ∀ w ∈ ws, ShW d w) : ShW (d + 1) (.tup ws) := by
  obtain ⟨a, b, c⟩ := ShW.alls h
  exact ⟨a, b, Nat.succ_le_succ c⟩
theorem ShW.eqOk {d : Nat} {w : W} (h : ShW d w) (hd : d ≤ 60) : w.eqOk := ⟨h.pr, by
  unfold SeqAt.shaped
  rw [h.ly, decide_eq_true (by have := h.dp; omega)]; rfl⟩
theorem ShW.eqsOk {d : Nat} {ws : List W} (h : ∀ w ∈ ws, ShW d w) (hd : d ≤ 60) : W.eqsOk ws := by
  obtain ⟨a, b, c⟩ := ShW.alls h
  refine ⟨a, ?_⟩
  unfold SeqAt.shaped
  have h1 : (PyData.list (W.dats ws)).canLay0 = true := b
  have h2 : (PyData.list (W.dats ws)).depth ≤ d + 1 := Nat.succ_le_succ c
  rw [h1, decide_eq_true (by omega)]; rfl
theorem rng_at {lo : Int} {n k : Nat} {x : W} (h : (rngW lo n)[k]? = some x) : k < n ∧ x = .int (lo + k) := by
  unfold rngW at h
  rw [List.getElem?_map] at h
  by_cases hk : k < n
  · rw [List.getElem?_range hk] at h
    cases h
    exact ⟨hk, rfl⟩
  · rw [List.getElem?_eq_none (by rw [List.length_range]; omega)] at h
    cases h
theorem rng_len {lo : Int} {n : Nat} : (rngW lo n).length = n := by unfold rngW; rw [List.length_map, List.length_range]
abbrev Gr := List (List Str)
def gw (g : Gr) : Nat := (g.headD []).length
structure GOk (g : Gr) : Prop where
  h0 : 1 ≤ g.length
  h1 : g.length ≤ 60
  w0 : 1 ≤ gw g
  w1 : gw g ≤ 60
  wr : ∀ r ∈ g, r.length = gw g
  sg : ∀ r ∈ g, ∀ c ∈ r, SgOk c
def mkG (w h : Int) (c : Str) : Gr := List.replicate h.toNat (List.replicate w.toNat c)
theorem mkG_len {w h : Int} {c : Str} : (mkG w h c).length = h.toNat := List.length_replicate
theorem mkG_w {w h : Int} {c : Str} (hh : 1 ≤ h) : gw (mkG w h c) = w.toNat := by
  unfold gw mkG
  obtain ⟨k, hk⟩ : ∃ k, h.toNat = k + 1 := ⟨h.toNat - 1, by omega⟩
  rw [hk, List.replicate_succ]
  exact List.length_replicate
theorem GOk.mk' {w h : Int} {c : Str} (w0 : 1 ≤ w) (w1 : w ≤ 60) (h0 : 1 ≤ h) (h1 : h ≤ 60) (hc : SgOk c) : GOk (mkG w h c) where
  h0 := by rw [mkG_len]; omega
  h1 := by rw [mkG_len]; omega
  w0 := by rw [mkG_w h0]; omega
  w1 := by rw [mkG_w h0]; omega
  wr r hr := by
    rw [mkG_w h0]
    rw [(List.mem_replicate.mp hr).2]
    exact List.length_replicate
  sg r hr d hd := by
    rw [(List.mem_replicate.mp hr).2] at hd
    rw [(List.mem_replicate.mp hd).2]
    exact hc
def gAt (g : Gr) (x y : Int) : Str := if 0 ≤ x ∧ x < gw g ∧ 0 ≤ y ∧ y < g.length then (g.getD y.toNat []).getD x.toNat "" else " "
def szW (g : Gr) : W := .tup [.int (gw g), .int g.length]
theorem nat_of {α : Type} {n : Int} (l : List α) : (∃ (k : Nat) (a : α), n = k ∧ l[k]? = some a) ∨ (n < 0 ∨ (l.length : Int) ≤ n) := by
  by_cases h : n < 0
  · exact .inr (.inl h)
  · by_cases h2 : (l.length : Int) ≤ n
    · exact .inr (.inr h2)
    · refine .inl ⟨n.toNat, l[n.toNat]'(by omega), by omega, List.getElem?_eq_getElem _⟩
structure GridAt (S : Sto) (q : Addr) (g : Gr) (ra : Nat → Addr) : Prop where
  top : S q = some (.lst ((List.range g.length).map fun j => W.ref (ra j)))
  row : ∀ j, j < g.length → S (ra j) = some (.lst ((g.getD j []).map W.str))
  ne : ∀ j, j < g.length → ra j ≠ q
  inj : ∀ i j, i < g.length → j < g.length → ra i = ra j → i = j
theorem GridAt.sub {S S' : Sto} {q : Addr} {g : Gr} {ra : Nat → Addr} (h : GridAt S q g ra) (k : Sub S S') : GridAt S' q g ra := ⟨k _ _ h.top, fun j hj => k _ _ (h.row j hj), h.ne, h.inj⟩
structure Shs where
  gr : List Gr
  dd : List (Int × Int × Int × Int × Int)
def Shs.g (H : Shs) (i : Nat) : Gr := H.gr.getD i []
def ddW (d : Int × Int × Int × Int × Int) : W := .tup [.int d.1, .tup [.int d.2.1, .int d.2.2.1, .int d.2.2.2.1, .int d.2.2.2.2]]
inductive ShR where
  | obj | sizes | grids | deeds
  | grid (i : Nat)
  | row (i j : Nat)
def Shs.ok (H : Shs) : ShR → Prop
  | .grid i => i < H.gr.length
  | .row i j => i < H.gr.length ∧ j < (H.g i).length
  | _ => True
def Shs.cont (cl : Nat → Addr) (H : Shs) (ad : ShR → Addr) : ShR → MO
  | .obj => .ins (cl 10) [("sizes", .ref (ad .sizes)), ("grids", .ref (ad .grids)), ("deeds", .ref (ad .deeds))]
  | .sizes => .lst (H.gr.map szW)
  | .grids => .lst ((List.range H.gr.length).map fun i => .ref (ad (.grid i)))
  | .deeds => .lst (H.dd.map ddW)
  | .grid i => .lst ((List.range (H.g i).length).map fun j => .ref (ad (.row i j)))
  | .row i j => .lst (((H.g i).getD j []).map W.str)
def ShAt (cl : Nat → Addr) (S : Sto) (s : Addr) (H : Shs) (F : Fp) : Prop := ∃ ad, Lay S H.ok (H.cont cl ad) ad ∧ ad .obj = s ∧ ∀ q, F q ↔ ∃ x, H.ok x ∧ ad x = q
section
variable {cl : Nat → Addr} {S S' : Sto} {s : Addr} {H : Shs} {F F' E E' : Fp}
theorem ShAt.sub (h : ShAt cl S s H F) (k : Sub S S') : ShAt cl S' s H F := by
  obtain ⟨ad, l, e, f⟩ := h
  exact ⟨ad, l.sub k, e, f⟩
theorem ShAt.known (h : ShAt cl S s H F) {q : Addr} (hq : F q) : S q ≠ none := by
  obtain ⟨ad, l, e, f⟩ := h
  obtain ⟨x, hx, rfl⟩ := (f q).mp hq
  rw [l.at_ x hx]; exact Option.some_ne_none _
theorem ShAt.own (h : ShAt cl S s H F) (k : Own E S E' S') (n : ∀ q, F q → ¬ E q) : ShAt cl S' s H F := by
  obtain ⟨ad, l, e, f⟩ := h
  exact ⟨ad, l.own k fun x hx => n _ ((f _).mpr ⟨x, hx, rfl⟩), e, f⟩
theorem ShAt.not (h : ShAt cl S s H F) {q : Addr} (hq : S q = none) : ¬ F q := fun k => h.known k hq
theorem ShAt.put (h : ShAt cl S s H F) {p : Addr} {o : MO} (hp : ¬ F p) : ShAt cl (M3.put S p o) s H F :=
  h.own (E := fun q => q = p) (E' := fun q => q = p) (Own.put rfl) fun q hq e => hp (e ▸ hq)
theorem Shs.g_of {i : Nat} {g : Gr} (e : H.gr[i]? = some g) : H.g i = g := by unfold Shs.g; rw [List.getD_eq_getElem?_getD, e]; rfl
theorem Lay.grid {ad : ShR → Addr} (l : Lay S H.ok (H.cont cl ad) ad) {i : Nat} {g : Gr} (e : H.gr[i]? = some g) : GridAt S (ad (.grid i)) g fun j => ad (.row i j) := by
  have hi := (List.getElem?_eq_some_iff.mp e).1
  have hg := Shs.g_of e
  refine ⟨?_, fun j hj => ?_, fun j hj z => ?_, fun a b ha hb z => ?_⟩
  · have := l.at_ (.grid i) hi
    simp only [Shs.cont, hg] at this
    exact this
  · have := l.at_ (.row i j) ⟨hi, by rw [hg]; exact hj⟩
    simp only [Shs.cont, hg] at this
    exact this
  · have := l.inj (.row i j) (.grid i) ⟨hi, by rw [hg]; exact hj⟩ hi z
    cases this
  · have := l.inj (.row i a) (.row i b) ⟨hi, by rw [hg]; exact ha⟩ ⟨hi, by rw [hg]; exact hb⟩ z
    cases this; rfl
theorem ShAt.read (h : ShAt cl S s H F) : ∃ (a b c : Addr) (gs : Nat → Addr), S s = some (.ins (cl 10) [("sizes", .ref a), ("grids", .ref b), ("deeds", .ref c)]) ∧ S a = some (.lst (H.gr.map szW)) ∧ S b = some (.lst ((List.range H.gr.length).map fun i => W.ref (gs i))) ∧ S c = some (.lst (H.dd.map ddW)) ∧
    ∀ i g, H.gr[i]? = some g → ∃ ra, GridAt S (gs i) g ra := by
  obtain ⟨ad, l, e, f⟩ := h
  refine ⟨ad .sizes, ad .grids, ad .deeds, fun i => ad (.grid i), e ▸ l.at_ .obj trivial, l.at_ .sizes trivial, l.at_ .grids trivial, l.at_ .deeds trivial, fun i g hg => ⟨_, l.grid hg⟩⟩
end
theorem atI_range {n i : Nat} {f : Nat → W} (h : i < n) : atI ((List.range n).map f) (i : Int) = some (f i) := by
  refine atI_nat ?_
  rw [List.getElem?_map, List.getElem?_range h]; rfl
theorem fld_of {s D : Addr} {fs : List (Str × W)} {f : Str} {w : W} {S : Sto} {Q : W → Prop} (e : S s = some (.ins D fs)) (h : fs.lookup f = some w) : fldW (.ref s) D f S Q = Q w := by
  unfold fldW
  dsimp only
  rw [e]
  dsimp only
  rw [h]
  simp
section
variable {S : Sto} {s D : Addr} {a b c : W} {Q : W → Prop}
theorem fld_sizes (e : S s = some (.ins D [("sizes", a), ("grids", b), ("deeds", c)])) : fldW (.ref s) D "sizes" S Q = Q a := fld_of e (by
  have h : (("sizes" : Str) == "sizes") = true := by decide +kernel
  simp only [List.lookup, h])
theorem fld_grids (e : S s = some (.ins D [("sizes", a), ("grids", b), ("deeds", c)])) : fldW (.ref s) D "grids" S Q = Q b := fld_of e (by
  have h : (("grids" : Str) == "sizes") = false := by decide +kernel
  have h2 : (("grids" : Str) == "grids") = true := by decide +kernel
  simp only [List.lookup, h, h2])
theorem fld_deeds (e : S s = some (.ins D [("sizes", a), ("grids", b), ("deeds", c)])) : fldW (.ref s) D "deeds" S Q = Q c := fld_of e (by
  have h : (("deeds" : Str) == "sizes") = false := by decide +kernel
  have h2 : (("deeds" : Str) == "grids") = false := by decide +kernel
  have h3 : (("deeds" : Str) == "deeds") = true := by decide +kernel
  simp only [List.lookup, h, h2, h3])
theorem ins_sh (e : S s = some (.ins D [("sizes", a), ("grids", b), ("deeds", c)])) {m : Str} (hm : (m == "sizes") = false ∧ (m == "grids") = false ∧ (m == "deeds") = false) : isIns (.ref s) D m S := by
  unfold isIns
  dsimp only
  rw [e]
  refine ⟨rfl, ?_⟩
  simp only [List.lookup, hm.1, hm.2.1, hm.2.2]
end
theorem ShAt.ins {cl : Nat → Addr} {S : Sto} {s : Addr} {H : Shs} {F : Fp} (h : ShAt cl S s H F) {m : Str} (hm : (m == "sizes") = false ∧ (m == "grids") = false ∧ (m == "deeds") = false) : isIns (.ref s) (cl 10) m S := by
  obtain ⟨a, b, c, gs, e0, _⟩ := h.read
  exact ins_sh e0 hm
theorem range_getD {α β : Type} {l : List α} {d : α} {f : α → β} : ((List.range l.length).map fun j => f (l.getD j d)) = l.map f := by
  apply List.ext_getElem?
  intro i
  rw [List.getElem?_map, List.getElem?_map]
  by_cases h : i < l.length
  · rw [List.getElem?_range h, List.getElem?_eq_getElem h]
    simp [h]
  · rw [List.getElem?_eq_none (by simpa using h), List.getElem?_eq_none (by omega)]; rfl
theorem szW_mk {w h : Int} {c : Str} (hw : 1 ≤ w) (hh : 1 ≤ h) : szW (mkG w h c) = .tup [.int w, .int h] := by
  unfold szW
  rw [mkG_w hh, mkG_len, Int.toNat_of_nonneg (by omega), Int.toNat_of_nonneg (by omega)]
theorem nodup_at {α : Type} {l : List α} (h : l.Nodup) {i j : Nat} (hi : i < l.length) (hj : j < l.length) (e : l[i] = l[j]) : i = j := by
  have pw := List.pairwise_iff_getElem.mp h
  by_cases k : i = j
  · exact k
  · by_cases lt : i < j
    · exact (pw i j hi hj lt e).elim
    · exact (pw j i hj hi (by omega) e.symm).elim
def N_Sheets_init : List Str := ["self"]
def ir_Sheets_init : ISs := .cons (.sfl 10 (.var 0) "sizes" (.mat (.dsp (.nil)))) (.cons (.sfl 10 (.var 0) "grids" (.mat (.dsp (.nil)))) (.cons (.sfl 10 (.var 0) "deeds" (.mat (.dsp (.nil)))) .nil))
def sp_Sheets_init (cl : Nat → Addr) : MSp := fun ws S Q _ => ∃ p, ws = [.ref p] ∧ S p = some (.ins (cl 10) []) ∧ ∀ F S', ShAt cl S' p ⟨[], []⟩ F → Own (fun q => q = p) S F S' → Q .non S'
theorem setF_of {s D : Addr} {fs : List (Str × W)} {f : Str} {w : W} {S : Sto} {Q : Sto → Prop} (e : S s = some (.ins D fs)) (h : fs.length < 1000) : setF (.ref s) D f w S Q = Q (put S s (.ins D (putFW f w fs))) := by
  unfold setF
  dsimp only
  rw [e]
  simp [h]
theorem ws_sfl {G : Gs} {D : MEnds} {σ : Envr} {S : Sto} {c : Nat} {o e : IE} {f : Str} : wpS G (.sfl c o f e) D σ S = wpE G e σ S (fun y S1 => wpE G o σ S1 (fun x S2 => setF x (G.cl c) f y S2 (D.nx σ)) (D.ex σ)) (D.ex σ) := rfl
theorem ws_rse {G : Gs} {D : MEnds} {σ : Envr} {S : Sto} {c : Nat} : wpS G (.rse c) D σ S = (c ∈ G.ex ∧ D.ex σ (G.cl c) S) := rfl
theorem putF_1 {w : W} : putFW "sizes" w [] = [(("sizes" : Str), w)] := rfl
theorem putF_2 {w a : W} : putFW "grids" w [(("sizes" : Str), a)] = [(("sizes" : Str), a), (("grids" : Str), w)] := by
  unfold putFW
  rw [if_neg (by decide +kernel)]; rfl
theorem putF_3 {w a b : W} : putFW "deeds" w [(("sizes" : Str), a), (("grids" : Str), b)] = [(("sizes" : Str), a), (("grids" : Str), b), (("deeds" : Str), w)] := by
  unfold putFW
  rw [if_neg (by decide +kernel)]
  unfold putFW
  rw [if_neg (by decide +kernel)]; rfl
theorem pf_Sheets_init (G : Gs) (ws : List W) (S : Sto) (Q : WQ) (X : XQ) (h : sp_Sheets_init G.cl ws S Q X) : ws.length = 1 ∧ wpF G 1 ir_Sheets_init ws S Q X := by
  obtain ⟨p, rfl, hp, hq⟩ := h
  refine ⟨rfl, ?_⟩
  unfold wpF ir_Sheets_init
  walk_at "wp"
  simp only [ws_sfl]
  walk_at "wp"
  refine ⟨by rw [sizeLine_val]; decide, fun a ha => ?_⟩
  have a1 : p ≠ a := (ne_new hp ha).symm
  rw [setF_of (by rw [put_ne a1]; exact hp) (by simp)]
  walk_at "wp"
  simp only [ws_sfl, putF_1]
  walk_at "wp"
  refine ⟨by rw [sizeLine_val]; decide, fun b hb => ?_⟩
  have b1 : p ≠ b := (ne_new put_same hb).symm
  have b2 : a ≠ b := (ne_new (put_at a1.symm) hb).symm
  rw [setF_of (by rw [put_ne b1, put_same]) (by simp)]
  walk_at "wp"
  simp only [ws_sfl, putF_2]
  walk_at "wp"
  refine ⟨by rw [sizeLine_val]; decide, fun c hc => ?_⟩
  have c1 : p ≠ c := (ne_new put_same hc).symm
  have c2 : b ≠ c := (ne_new (put_at b1.symm) hc).symm
  have c3 : a ≠ c := (ne_new (o := .lst []) (by rw [put_ne a1.symm, put_ne b2, put_ne a1.symm, put_same]) hc).symm
  rw [setF_of (by rw [put_ne c1, put_same]) (by simp), putF_3]
  walk_at "wp"
  have hnew : ∀ q, q ≠ p → S q = none ∨ (q ≠ a ∧ q ≠ b ∧ q ≠ c) := fun q hqp => by
    by_cases ea : q = a
    · subst ea; exact .inl ha
    · by_cases eb : q = b
      · subst eb
        rw [put_ne b1.symm, put_ne b2.symm] at hb
        exact .inl hb
      · by_cases ec : q = c
        · subst ec
          rw [put_ne c1.symm, put_ne c2.symm, put_ne c1.symm, put_ne c3.symm] at hc
          exact .inl hc
        · exact .inr ⟨ea, eb, ec⟩
  refine ⟨_, Sub.refl _, hq (fun q => q = p ∨ q = a ∨ q = b ∨ q = c) _ ⟨fun | .obj => p | .sizes => a | .grids => b | .deeds => c | .grid _ => p | .row _ _ => p, ⟨fun x hx => ?_, fun x y hx hy e => ?_⟩, rfl, fun q => ?_⟩ ⟨fun q o n e => ?_, fun q h => ?_⟩⟩
  · cases x with
    | obj => exact put_same
    | sizes => show put _ p _ a = _; rw [put_ne a1.symm, put_ne c3, put_ne a1.symm, put_ne b2, put_ne a1.symm, put_same]; rfl
    | grids => show put _ p _ b = _; rw [put_ne b1.symm, put_ne c2, put_ne b1.symm, put_same]; rfl
    | deeds => show put _ p _ c = _; rw [put_ne c1.symm, put_same]; rfl
    | grid i => cases hx
    | row i j => cases hx.1
  · cases x <;> cases y <;> first | rfl | exact (a1 e).elim | exact (a1 e.symm).elim | exact (b1 e).elim | exact (b1 e.symm).elim | exact (c1 e).elim | exact (c1 e.symm).elim | exact (b2 e).elim | exact (b2 e.symm).elim | exact (c2 e).elim | exact (c2 e.symm).elim | exact (c3 e).elim | exact (c3 e.symm).elim | (cases hx; done) | (cases hy; done) | (cases hx.1; done) | (cases hy.1; done)
  · constructor
    · rintro (e | e | e | e)
      · exact ⟨.obj, trivial, e.symm⟩
      · exact ⟨.sizes, trivial, e.symm⟩
      · exact ⟨.grids, trivial, e.symm⟩
      · exact ⟨.deeds, trivial, e.symm⟩
    · rintro ⟨x, hx, rfl⟩
      cases x with
      | obj => exact .inl rfl
      | sizes => exact .inr (.inl rfl)
      | grids => exact .inr (.inr (.inl rfl))
      | deeds => exact .inr (.inr (.inr rfl))
      | grid i => exact .inl rfl
      | row i j => exact .inl rfl
  · have n' : q ≠ p := n
    rcases hnew q n' with z | ⟨z1, z2, z3⟩
    · rw [z] at e; cases e
    · rw [put_ne n', put_ne z3, put_ne n', put_ne z2, put_ne n', put_ne z1]; exact e
  · by_cases n' : q = p
    · exact .inl n'
    · rcases hnew q n' with z | ⟨z1, z2, z3⟩
      · exact .inr z
      · rcases h with h | h | h | h
        · exact (n' h).elim
        · exact (z1 h).elim
        · exact (z2 h).elim
        · exact (z3 h).elim
def N_Sheets_how_many : List Str := ["self"]
def ir_Sheets_how_many : ISs := .cons (.ret (.len (.fld 10 (.var 0) "sizes"))) .nil
def sp_Sheets_how_many (cl : Nat → Addr) : MSp := fun ws S Q _ => ∃ (s : Addr) (H : Shs) (F : Fp), ws = [.ref s] ∧ ShAt cl S s H F ∧ Q (.int H.gr.length) S
theorem pf_Sheets_how_many (G : Gs) (ws : List W) (S : Sto) (Q : WQ) (X : XQ) (h : sp_Sheets_how_many G.cl ws S Q X) : ws.length = 1 ∧ wpF G 1 ir_Sheets_how_many ws S Q X := by
  obtain ⟨s, H, F, rfl, hs, hq⟩ := h
  refine ⟨rfl, ?_⟩
  obtain ⟨a, b, c, gs, e0, ea, eb, ec, eg⟩ := hs.read
  unfold wpF ir_Sheets_how_many
  walk_at "wp"
  simp only [fld_sizes e0, len_ref, ea, List.length_map]
  exact ⟨_, Sub.refl _, hq⟩
def N_Sheets_size_of : List Str := ["self", "sheet"]
def ir_Sheets_size_of : ISs := .cons (.iff (.or (.cmp .lt (.var 1) (.cst (.int 0))) (.cmp .ge (.var 1) (.len (.fld 10 (.var 0) "sizes")))) (.cons (.rse 2) .nil) (.nil)) (.cons (.ret (.idx (.fld 10 (.var 0) "sizes") (.var 1))) .nil)
def sp_Sheets_size_of (cl : Nat → Addr) : MSp := fun ws S Q X => ∃ (s : Addr) (H : Shs) (F : Fp) (n : Int), ws = [.ref s, .int n] ∧ ShAt cl S s H F ∧ H.gr.length ≤ 1000 ∧
  (∀ (k : Nat) (g : Gr), n = k → H.gr[k]? = some g → Q (szW g) S) ∧ ((n < 0 ∨ (H.gr.length : Int) ≤ n) → X (cl 2) S)
theorem pf_Sheets_size_of (G : Gs) (hx2 : 2 ∈ G.ex) (ws : List W) (S : Sto) (Q : WQ) (X : XQ) (h : sp_Sheets_size_of G.cl ws S Q X) : ws.length = 2 ∧ wpF G 2 ir_Sheets_size_of ws S Q X := by
  obtain ⟨s, H, F, n, rfl, hs, hl, hq, hn⟩ := h
  refine ⟨rfl, ?_⟩
  obtain ⟨a, b, c, gs, e0, ea, eb, ec, eg⟩ := hs.read
  unfold wpF ir_Sheets_size_of
  walk_at "wp"
  simp only [fld_sizes e0, len_ref, ea, List.length_map]
  rcases nat_of (n := n) H.gr with ⟨k, g, rfl, hg⟩ | ho
  · have hk := (List.getElem?_eq_some_iff.mp hg).1
    rw [if_neg (by omega), if_neg (by omega)]
    walk_at "wp"
    rw [ea]
    dsimp only
    rw [atI_nat (v := szW g) (by rw [List.getElem?_map, hg]; rfl)]
    exact ⟨_, Sub.refl _, hq k g rfl hg⟩
  · by_cases h0 : n < 0
    · rw [if_pos h0, ws_rse]
      exact ⟨hx2, _, Sub.refl _, hn ho⟩
    · rw [if_neg h0, if_pos (by omega), ws_rse]
      exact ⟨hx2, _, Sub.refl _, hn ho⟩
def N_Sheets_rows_of : List Str := ["self", "sheet", "row"]
def ir_Sheets_rows_of : ISs := .cons (.exp (.meth 413 10 "size_of" (.var 0) (.cons (.var 1) .nil))) (.cons (.ret (.mat (.comp (.join (.cst (.str "")) (.of (.var 2))) (.nm 2) (.lst (.of (.idx (.fld 10 (.var 0) "grids") (.var 1)))) [2]))) .nil)
def sp_Sheets_rows_of (cl : Nat → Addr) : MSp := fun ws S Q X => ∃ (s : Addr) (H : Shs) (F : Fp) (n : Int), ws = [.ref s, .int n] ∧ ShAt cl S s H F ∧ H.gr.length ≤ 1000 ∧ (∀ g ∈ H.gr, GOk g) ∧
  (∀ (k : Nat) (g : Gr), n = k → H.gr[k]? = some g → ∀ q S', Sub S S' → S q = none → S' q = some (.lst (g.map fun r => .str (txt r))) → Q (.ref q) S') ∧ ((n < 0 ∨ (H.gr.length : Int) ≤ n) → X (cl 2) S)
theorem pf_Sheets_rows_of (G : Gs) (hG413 : G 413 = sp_Sheets_size_of G.cl) (ws : List W) (S : Sto) (Q : WQ) (X : XQ) (h : sp_Sheets_rows_of G.cl ws S Q X) : ws.length = 2 ∧ wpF G 3 ir_Sheets_rows_of ws S Q X := by
  obtain ⟨s, H, F, n, rfl, hs, hl, hg, hq, hn⟩ := h
  refine ⟨rfl, ?_⟩
  obtain ⟨a, b, c, gs, e0, ea, eb, ec, eg⟩ := hs.read
  unfold wpF ir_Sheets_rows_of
  walk_at "wp"
  simp only [hG413]
  refine ⟨ins_sh e0 ⟨by decide +kernel, by decide +kernel, by decide +kernel⟩, s, H, F, n, rfl, hs, hl, fun k g e hk => ?_, fun ho => ⟨_, Sub.refl _, hn ho⟩⟩
  subst e
  have hlt := (List.getElem?_eq_some_iff.mp hk).1
  walk_at "wp"
  have q := hq k g rfl hk
  have gok := hg g (List.mem_of_getElem? hk)
  obtain ⟨ra, ga⟩ := eg k g hk
  simp only [fld_grids e0, idx_ref, eb, atI_range hlt, ga.top]
  refine CompG.map (List.range g.length) (fun j => W.ref (ra j)) (fun j => .str (txt (g.getD j []))) rfl (by rw [List.length_range]; have := gok.h1; omega) ga.top (fun j hj Q' hq' => ?_) fun p hp => ?_
  · have hj' := List.mem_range.mp hj
    walk_at "wp"
    refine ⟨⟨_, rfl⟩, ?_⟩
    rw [ga.row j hj']
    dsimp only
    have hr : (g.getD j []) ∈ g := by
      rw [List.getD_eq_getElem?_getD, List.getElem?_eq_getElem hj']; exact List.getElem_mem hj'
    exact join_row (gok.sg _ hr) (by rw [gok.wr _ hr]; have := gok.w1; omega) hq'
  · refine ⟨_, Sub.refl _, q p _ (Sub.put hp) hp ?_⟩
    rw [put_same]
    exact congrArg (fun z => some (MO.lst z)) (range_getD (f := fun r => W.str (txt r)))
def N_Sheets_make : List Str := ["self", "w", "h", "sign", "row"]
def ir_Sheets_make : ISs := .cons (.iff (.or (.cmp .lt (.var 1) (.cst (.int 1))) (.or (.cmp .gt (.var 1) (.glb "MOST" (.inl 60))) (.or (.cmp .lt (.var 2) (.cst (.int 1))) (.cmp .gt (.var 2) (.glb "MOST" (.inl 60)))))) (.cons (.rse 1) .nil) (.nil)) (.cons (.exp (.app (.fld 10 (.var 0) "sizes") (.tup (.cons (.var 1) (.cons (.var 2) .nil))))) (.cons (.exp (.app (.fld 10 (.var 0) "grids") (.mat (.comp (.mat (.rep (.t (.dsp (.cons (.var 3) .nil))) (.var 1))) (.nm 4) (.rng (.var 2)) [4])))) (.cons (.ret (.bin .sub (.len (.fld 10 (.var 0) "sizes")) (.cst (.int 1)))) .nil)))
def sp_Sheets_make (cl : Nat → Addr) : MSp := fun ws S Q X => ∃ (s : Addr) (H : Shs) (F : Fp) (w h : Int) (c : Str), ws = [.ref s, .int w, .int h, .str c] ∧ ShAt cl S s H F ∧ H.gr.length ≤ 1000 ∧
  ((1 ≤ w ∧ w ≤ 60 ∧ 1 ≤ h ∧ h ≤ 60) → ∀ F' S', ShAt cl S' s ⟨H.gr ++ [mkG w h c], H.dd⟩ F' → Own F S F' S' → Q (.int H.gr.length) S') ∧ (¬ (1 ≤ w ∧ w ≤ 60 ∧ 1 ≤ h ∧ h ≤ 60) → X (cl 1) S)
theorem pf_Sheets_make (G : Gs) (hx1 : 1 ∈ G.ex) (ws : List W) (S : Sto) (Q : WQ) (X : XQ) (h : sp_Sheets_make G.cl ws S Q X) : ws.length = 4 ∧ wpF G 5 ir_Sheets_make ws S Q X := by
  obtain ⟨s, H, F, w, h, c, rfl, hs, hl, hq, hn⟩ := h
  refine ⟨rfl, ?_⟩
  obtain ⟨ad, l, rfl, hf⟩ := hs
  unfold wpF ir_Sheets_make
  walk_at "wp"
  simp only [kW]
  walk_at "wp"
  by_cases hc : 1 ≤ w ∧ w ≤ 60 ∧ 1 ≤ h ∧ h ≤ 60
  · have e0 : S (ad .obj) = some (.ins (G.cl 10) [("sizes", .ref (ad .sizes)), ("grids", .ref (ad .grids)), ("deeds", .ref (ad .deeds))]) := l.at_ .obj trivial
    have ea : S (ad .sizes) = some (.lst (H.gr.map szW)) := l.at_ .sizes trivial
    have eb : S (ad .grids) = some (.lst ((List.range H.gr.length).map fun i => .ref (ad (.grid i)))) := l.at_ .grids trivial
    have n1 : ad .sizes ≠ ad .grids := fun e => by cases l.inj .sizes .grids trivial trivial e
    have n2 : ad .obj ≠ ad .sizes := fun e => by cases l.inj .obj .sizes trivial trivial e
    have n3 : ad .obj ≠ ad .grids := fun e => by cases l.inj .obj .grids trivial trivial e
    rw [if_neg (by omega), if_neg (by omega), if_neg (by omega), if_neg (by omega)]
    walk_at "wp"
    rw [fld_sizes e0]
    dsimp only
    rw [ea]
    refine ⟨trivial, by rw [sizeLine_val]; decide, by rw [List.length_map, sizeLine_val]; omega, ?_⟩
    rw [fld_grids (by rw [put_ne n2]; exact e0)]
    dsimp only
    rw [put_ne n1.symm, eb]
    refine ⟨trivial, ⟨by omega, by omega⟩, ?_⟩
    refine CompG.lists (List.range h.toNat) (fun k => .int (0 + k)) (fun _ => List.replicate w.toNat (.str c)) rfl (by rw [List.length_range]; omega) (fun _ _ => trivial) (fun a ha S3 hs3 Q' hq' => ?_) fun rs S3 hrl hnd hrn hs3 hr g hg => ?_
    · walk_at "wp"
      refine ⟨by rw [sizeLine_val, List.length_singleton]; decide, rfl, trivial, by omega, by omega, by rw [sizeLine_val, List.length_singleton]; omega, ?_⟩
      intro r hr
      have := hq' r hr
      simpa using this
    · rw [List.length_range] at hrl
      let n := H.gr.length
      have L1 : Lay _ H.ok (fun | .sizes => .lst (H.gr.map szW ++ [.tup [.int w, .int h]]) | x => H.cont G.cl ad x) ad := l.put (x := .sizes) (cont' := fun | .sizes => .lst (H.gr.map szW ++ [.tup [.int w, .int h]]) | x => H.cont G.cl ad x) trivial fun y _ hy => by cases y <;> first | rfl | exact (hy rfl).elim
      have L3 := (L1.sub hs3).sub (Sub.put (o := .lst (rs.map W.ref)) hg)
      have e4 : put S3 g (.lst (rs.map W.ref)) (ad .grids) = some (.lst ((List.range H.gr.length).map fun i => .ref (ad (.grid i)))) := L3.at_ .grids trivial
      have L5 : Lay _ H.ok (fun | .sizes => .lst (H.gr.map szW ++ [.tup [.int w, .int h]]) | .grids => .lst (((List.range H.gr.length).map fun i => .ref (ad (.grid i))) ++ [.ref g]) | x => H.cont G.cl ad x) ad := L3.put (x := .grids) (cont' := fun | .sizes => .lst (H.gr.map szW ++ [.tup [.int w, .int h]]) | .grids => .lst (((List.range H.gr.length).map fun i => .ref (ad (.grid i))) ++ [.ref g]) | x => H.cont G.cl ad x) trivial fun y _ hy => by cases y <;> first | rfl | exact (hy rfl).elim
      rw [e4]
      refine ⟨by rw [List.length_map, List.length_range, sizeLine_val]; omega, ?_⟩
      rw [fld_sizes (L5.at_ .obj trivial), len_ref, L5.at_ .sizes trivial]
      have e6 : (((H.gr.map szW ++ [W.tup [.int w, .int h]]).length : Nat) : Int) - 1 = H.gr.length := by rw [List.length_append, List.length_map, List.length_singleton]; omega
      dsimp only
      rw [e6]
      have gS : S g = none := by
        have h1 := hs3.none hg
        by_cases e : g = ad .sizes
        · rw [e, put_same] at h1; cases h1
        · rw [put_ne e] at h1; exact h1
      have rS : ∀ r ∈ rs, S r = none := fun r hr' => by
        have h1 := hrn r hr'
        by_cases e : r = ad .sizes
        · rw [e, put_same] at h1; cases h1
        · rw [put_ne e] at h1; exact h1
      have rg : g ∉ rs := fun hm => by
        obtain ⟨i, hi⟩ := List.getElem?_of_mem hm
        have hlt := (List.getElem?_eq_some_iff.mp hi).1
        have := hr i g _ hi (List.getElem?_range (by omega))
        rw [hg] at this; cases this
      have gN : ∀ i, i < H.gr.length → (H.gr ++ [mkG w h c]).getD i [] = H.gr.getD i [] := fun i hi => by
        rw [List.getD_eq_getElem?_getD, List.getD_eq_getElem?_getD, List.getElem?_append_left hi]
      have gL : (H.gr ++ [mkG w h c]).getD H.gr.length [] = mkG w h c := by
        rw [List.getD_eq_getElem?_getD, List.getElem?_append_right (Nat.le_refl _), Nat.sub_self]; rfl
      have oS : ∀ x, H.ok x → S (ad x) ≠ none := fun x hx => by rw [l.at_ x hx]; exact Option.some_ne_none _
      let ad' : ShR → Addr := fun | .grid i => if i = H.gr.length then g else ad (.grid i) | .row i j => if i = H.gr.length then rs.getD j g else ad (.row i j) | x => ad x
      have hrow : ∀ j, j < h.toNat → rs.getD j g ∈ rs ∧ rs[j]? = some (rs.getD j g) := fun j hj => by
        rw [List.getD_eq_getElem?_getD, List.getElem?_eq_getElem (by omega)]
        exact ⟨List.getElem_mem _, rfl⟩
      have adG : ∀ i, i ≠ H.gr.length → ad' (.grid i) = ad (.grid i) := fun i hi => if_neg hi
      have adR : ∀ i j, i ≠ H.gr.length → ad' (.row i j) = ad (.row i j) := fun i j hi => if_neg hi
      have adG' : ad' (.grid H.gr.length) = g := if_pos rfl
      have adR' : ∀ j, ad' (.row H.gr.length j) = rs.getD j g := fun j => if_pos rfl
      have sgd : ∀ i, Shs.g ⟨H.gr ++ [mkG w h c], H.dd⟩ i = (H.gr ++ [mkG w h c]).getD i [] := fun i => rfl
      have len' : (H.gr ++ [mkG w h c]).length = H.gr.length + 1 := by rw [List.length_append, List.length_singleton]
      have nog : ∀ {q}, S q = none → ∀ x, H.ok x → q ≠ ad x := fun {q} hq x hx e => oS x hx (e ▸ hq)
      have L6 : Lay (put (put S3 g (.lst (rs.map W.ref))) (ad .grids) (.lst (((List.range H.gr.length).map fun i => .ref (ad (.grid i))) ++ [.ref g]))) (Shs.ok ⟨H.gr ++ [mkG w h c], H.dd⟩) (Shs.cont G.cl ⟨H.gr ++ [mkG w h c], H.dd⟩ ad') ad' := by
        refine Lay.ext (T := S) (nw := fun x => x = .grid H.gr.length ∨ ∃ j, x = .row H.gr.length j) L5 oS (fun x hx => ?_) (fun x y hx hy ox oy e => ?_)
        · cases x with
          | obj => exact .inl ⟨trivial, rfl, rfl⟩
          | sizes =>
            refine .inl ⟨trivial, rfl, ?_⟩
            show MO.lst ((H.gr ++ [mkG w h c]).map szW) = .lst (H.gr.map szW ++ [.tup [.int w, .int h]])
            rw [List.map_append, List.map_singleton, szW_mk hc.1 hc.2.2.1]
          | grids =>
            refine .inl ⟨trivial, rfl, ?_⟩
            show MO.lst ((List.range (H.gr ++ [mkG w h c]).length).map fun i => .ref (ad' (.grid i))) = .lst (((List.range H.gr.length).map fun i => .ref (ad (.grid i))) ++ [.ref g])
            rw [len', List.range_succ, List.map_append, List.map_singleton, adG']
            congr 2
            refine List.map_congr_left fun i hi => ?_
            rw [adG i (by have := List.mem_range.mp hi; omega)]
          | deeds => exact .inl ⟨trivial, rfl, rfl⟩
          | grid i =>
            have hx' : i < H.gr.length + 1 := len' ▸ hx
            by_cases e : i = H.gr.length
            · subst e
              refine .inr ⟨.inl rfl, ?_, by rw [adG']; exact gS⟩
              rw [adG', put_ne (nog gS .grids trivial), put_same]
              show some (MO.lst (rs.map W.ref)) = some (.lst ((List.range ((H.gr ++ [mkG w h c]).getD H.gr.length []).length).map fun j => .ref (ad' (.row H.gr.length j))))
              rw [gL, mkG_len, ← hrl]
              congr 2
              have := range_getD (l := rs) (d := g) (f := W.ref)
              rw [← this]
              exact List.map_congr_left fun j _ => by rw [adR']
            · refine .inl ⟨(by show i < H.gr.length; omega), adG i e, ?_⟩
              show MO.lst ((List.range ((H.gr ++ [mkG w h c]).getD i []).length).map fun j => .ref (ad' (.row i j))) = .lst ((List.range (H.gr.getD i []).length).map fun j => .ref (ad (.row i j)))
              rw [gN i (by omega)]
              congr 1
              exact List.map_congr_left fun j _ => by rw [adR i j e]
          | row i j =>
            have hx1 : i < H.gr.length + 1 := len' ▸ hx.1
            by_cases e : i = H.gr.length
            · subst e
              have hx2 : j < h.toNat := by
                have := hx.2
                rw [sgd, gL, mkG_len] at this
                exact this
              obtain ⟨m1, m2⟩ := hrow j hx2
              have ng : rs.getD j g ≠ g := fun z => rg (z ▸ m1)
              refine .inr ⟨.inr ⟨j, rfl⟩, ?_, by rw [adR']; exact rS _ m1⟩
              rw [adR', put_ne (nog (rS _ m1) .grids trivial), put_ne ng, hr j _ j m2 (List.getElem?_range hx2)]
              show some (MO.lst (List.replicate w.toNat (.str c))) = some (.lst (((((H.gr ++ [mkG w h c]).getD H.gr.length []).getD j []).map W.str)))
              rw [gL]
              unfold mkG
              rw [List.getD_eq_getElem?_getD, List.getElem?_replicate, if_pos hx2, Option.getD_some, List.map_replicate]
            · refine .inl ⟨⟨by omega, ?_⟩, adR i j e, ?_⟩
              · have := hx.2
                rw [sgd, gN i (by omega)] at this
                exact this
              · show MO.lst ((((H.gr ++ [mkG w h c]).getD i []).getD j []).map W.str) = .lst (((H.gr.getD i []).getD j []).map W.str)
                rw [gN i (by omega)]
        · rcases hx with rfl | ⟨i, rfl⟩ <;> rcases hy with rfl | ⟨j, rfl⟩
          · rfl
          · rw [adG', adR'] at e
            have := (hrow j (by have := oy.2; rw [sgd, gL, mkG_len] at this; exact this)).1
            exact (rg (e ▸ this)).elim
          · rw [adG', adR'] at e
            have := (hrow i (by have := ox.2; rw [sgd, gL, mkG_len] at this; exact this)).1
            exact (rg (e ▸ this)).elim
          · rw [adR', adR'] at e
            have h1 : i < rs.length := by have := ox.2; rw [sgd, gL, mkG_len] at this; omega
            have h2 : j < rs.length := by have := oy.2; rw [sgd, gL, mkG_len] at this; omega
            rw [List.getD_eq_getElem?_getD, List.getD_eq_getElem?_getD, List.getElem?_eq_getElem h1, List.getElem?_eq_getElem h2] at e
            rw [nodup_at hnd h1 h2 e]
      have O5 : Own F S F (put (put S3 g (.lst (rs.map W.ref))) (ad .grids) (.lst (((List.range H.gr.length).map fun i => .ref (ad (.grid i))) ++ [.ref g]))) := ((Own.put (o := .lst (H.gr.map szW ++ [.tup [.int w, .int h]])) ((hf (ad .sizes)).mpr ⟨.sizes, trivial, rfl⟩)).sub (hs3.trans (Sub.put (o := .lst (rs.map W.ref)) hg))).trans (Own.put (o := .lst (((List.range H.gr.length).map fun i => .ref (ad (.grid i))) ++ [.ref g])) ((hf (ad .grids)).mpr ⟨.grids, trivial, rfl⟩))
      refine ⟨_, Sub.refl _, hq hc (fun q => ∃ x, Shs.ok ⟨H.gr ++ [mkG w h c], H.dd⟩ x ∧ ad' x = q) _ ⟨ad', L6, rfl, fun q => Iff.rfl⟩ ⟨O5.fr, ?_⟩⟩
      rintro q ⟨x, hx, rfl⟩
      cases x with
      | obj => exact .inl ((hf _).mpr ⟨.obj, trivial, rfl⟩)
      | sizes => exact .inl ((hf _).mpr ⟨.sizes, trivial, rfl⟩)
      | grids => exact .inl ((hf _).mpr ⟨.grids, trivial, rfl⟩)
      | deeds => exact .inl ((hf _).mpr ⟨.deeds, trivial, rfl⟩)
      | grid i =>
        have hx' : i < H.gr.length + 1 := len' ▸ hx
        by_cases e : i = H.gr.length
        · subst e; rw [adG']; exact .inr gS
        · rw [adG i e]; exact .inl ((hf _).mpr ⟨.grid i, (by show i < H.gr.length; omega), rfl⟩)
      | row i j =>
        have hx1 : i < H.gr.length + 1 := len' ▸ hx.1
        by_cases e : i = H.gr.length
        · subst e
          rw [adR']
          exact .inr (rS _ (hrow j (by have := hx.2; rw [sgd, gL, mkG_len] at this; exact this)).1)
        · rw [adR i j e]
          refine .inl ((hf _).mpr ⟨.row i j, ⟨by omega, ?_⟩, rfl⟩)
          have := hx.2
          rw [sgd, gN i (by omega)] at this
          exact this
  · have x : ∃ S2, Sub S2 S ∧ X (G.cl 1) S2 := ⟨_, Sub.refl _, hn hc⟩
    by_cases c1 : w < 1
    · rw [if_pos c1, ws_rse]; exact ⟨hx1, x⟩
    rw [if_neg c1]
    by_cases c2 : 60 < w
    · rw [if_pos c2, ws_rse]; exact ⟨hx1, x⟩
    rw [if_neg c2]
    by_cases c3 : h < 1
    · rw [if_pos c3, ws_rse]; exact ⟨hx1, x⟩
    rw [if_neg c3, if_pos (by omega), ws_rse]; exact ⟨hx1, x⟩
theorem bin_powI {i j : Int} {Q : W → Prop} : binW .pow (.int i) (.int j) Q = (powOk i j ∧ Q (.int (i ^ j.toNat))) := rfl
def Bag (n : Nat) (o : MO) : Prop := ∃ x y z : Int, o = .lst [.int x, .int y, .int z] ∧ 0 ≤ y ∧ y < 2147483647 ∧ 0 ≤ z ∧ z ≤ n
theorem Bag.mono {n m : Nat} {o : MO} (h : Bag n o) (k : n ≤ m) : Bag m o := by
  obtain ⟨x, y, z, a, b, c, d, e⟩ := h
  exact ⟨x, y, z, a, b, c, d, by omega⟩
local macro_rules | `(tactic| walk_at "wp") => `(tactic| try simp only [wss_nil, wss_cons, ws_set, ws_par, ws_asg, ws_aug, ws_exp, ws_ret, ws_retN, ws_pas, ws_brk, ws_cnt, ws_iff, ws_whl, ws_for, wpE, wpEs, wpO, wt_dsp, wt_cat, wt_slc, wt_rev, wt_lst, wt_srt, wt_sset, wt_comp, wt_compif, wpL, wpG, wpGs, wpI, getv_0, getv_s, setv_0, setv_s, bin_addI, bin_sub, bin_mul, bin_fdiv, bin_mod, cmp_lt, cmp_le, cmp_gt, cmp_ge, cmp_eqI, cmp_neI, asBl_bl, if_ff, if_tt, wipeW_nil, wipeW_cons, List.length_cons, List.length_nil, IGs.len, replicate_s, replicate_0, List.map_cons, List.map_nil, List.cons_append, List.nil_append, Nat.reduceSub, Nat.reduceAdd, true_and, put_same, isLst, idx_tup, idx_rol, idx_ref, set_refI, atI_0, atI_1, atI_2, atI_3, ixN_0, ixN_1, ixN_2, ixN_3, put_put, decide_eq_true_eq, len_tup, len_rol, len_ref, isa_tupT, isa_intI, isa_intB, isa_blB, isa_blI, isa_refL, isNon_int, isNon_tup, isNon_non, nc0, nc1, nc2, nc3, nc4, bff, btf, btt, bft, eq_self, decide_true, if_true, if_false, Bool.not_true, Bool.not_false, cmp_eqB, cmp_neB])
inductive Tr where
  | non
  | bl (b : Bool)
  | int (i : Int)
  | str (s : Str)
  | tup (l : List Tr)
  | lst (l : List Tr)
def RepT (S : Sto) : Nat → Tr → W → Prop
  | 0, _, _ => False
  | _ + 1, .non, w => w = .non
  | _ + 1, .bl b, w => w = .bl b
  | _ + 1, .int i, w => w = .int i
  | _ + 1, .str s, w => w = .str s ∧ SeqAt.shaped (W.str s).dat = true
  | n + 1, .tup l, w => ∃ ws, w = .tup ws ∧ ws.length = l.length ∧ l.length ≤ 1000000 ∧ ∀ (i : Nat) (t : Tr) (v : W), l[i]? = some t → ws[i]? = some v → RepT S n t v
  | n + 1, .lst l, w => ∃ a ws, w = .ref a ∧ S a = some (.lst ws) ∧ ws.length = l.length ∧ l.length ≤ 1000000 ∧ ∀ (i : Nat) (t : Tr) (v : W), l[i]? = some t → ws[i]? = some v → RepT S n t v
local macro_rules | `(tactic| walk_at "wp") => `(tactic| try simp only [wss_nil, wss_cons, ws_set, ws_par, ws_asg, ws_aug, ws_exp, ws_ret, ws_retN, ws_pas, ws_brk, ws_cnt, ws_iff, ws_whl, ws_for, wpE, wpEs, wpO, wt_dsp, wt_cat, wt_slc, wt_rev, wt_lst, wt_srt, wt_sset, wt_comp, wt_compif, wpL, wpG, wpGs, wpI, getv_0, getv_s, setv_0, setv_s, bin_addI, bin_sub, bin_mul, bin_fdiv, bin_mod, cmp_lt, cmp_le, cmp_gt, cmp_ge, cmp_eqI, cmp_neI, asBl_bl, if_ff, if_tt, wipeW_nil, wipeW_cons, List.length_cons, List.length_nil, IGs.len, replicate_s, replicate_0, List.map_cons, List.map_nil, List.cons_append, List.nil_append, Nat.reduceSub, Nat.reduceAdd, true_and, put_same, isLst, idx_tup, idx_rol, idx_ref, set_refI, atI_0, atI_1, atI_2, atI_3, ixN_0, ixN_1, ixN_2, ixN_3, put_put, decide_eq_true_eq, len_tup, len_rol, len_ref, isa_tupT, isa_intI, isa_intB, isa_blB, isa_blI, isa_refL, isNon_int, isNon_tup, isNon_non, nc0, nc1, nc2, nc3, nc4, bff, btf, btt, bft, eq_self, decide_true, if_true, if_false, Bool.not_true, Bool.not_false])
def SubX (S : Sto) (p : Addr) (S' : Sto) : Prop := ∀ a o, a ≠ p → S a = some o → S' a = some o
theorem SubX.start {S : Sto} {p : Addr} {o : MO} : SubX S p (put S p o) := fun a u h e => by rw [put_ne h]; exact e
theorem SubX.tap {S S' : Sto} {p : Addr} {o : MO} (h : SubX S p S') : SubX S p (put S' p o) := fun a u n e => by rw [put_ne n]; exact h a u n e
theorem SubX.new {S S' : Sto} {p q : Addr} {o : MO} (h : SubX S p S') (hq : S' q = none) : SubX S p (put S' q o) := fun a u n e => Sub.put hq a u (h a u n e)
theorem SubX.upd {S S' : Sto} {p q : Addr} {o : MO} (h : SubX S p S') (hq : S q = none) : SubX S p (put S' q o) := fun a u n e => by
  have : a ≠ q := fun z => by subst z; rw [hq] at e; cases e
  rw [put_ne this]; exact h a u n e
theorem SubX.none {S S' : Sto} {p q : Addr} (h : SubX S p S') (hq : S' q = none) (n : q ≠ p) : S q = none := by
  cases e : S q with
  | none => rfl
  | some o => rw [h q o n e] at hq; cases hq
theorem SubX.end {S S' : Sto} {p : Addr} {o : MO} (h : SubX S p S') (hp : S' p = some o) : Sub (M3.put S p o) S' := fun a u e => by
  by_cases n : a = p
  · subst n; rw [put_same] at e; cases e; exact hp
  · rw [put_ne n] at e; exact h a u n e
def cel (g : Gr) (i j : Nat) : Str := (g.getD j []).getD i ""
def rl (g : Gr) (j : Nat) : Nat := (g.getD j []).length
structure IsP (g : Gr) (f : Nat → Nat → Option Str) (g' : Gr) : Prop where
  len : g'.length = g.length
  row : ∀ j, j < g.length → rl g' j = rl g j
  cell : ∀ j i, j < g.length → i < rl g j → cel g' i j = (f i j).getD (cel g i j)
theorem getD_at {α : Type} {l : List α} {d : α} {i : Nat} (h : i < l.length) : l.getD i d = l[i] := by
  rw [List.getD_eq_getElem?_getD, List.getElem?_eq_getElem h]; rfl
theorem getD_mem {α : Type} {l : List α} {d : α} {i : Nat} (h : i < l.length) : l.getD i d ∈ l := by
  rw [getD_at h]; exact List.getElem_mem h
theorem getD_set {α : Type} {l : List α} {d a : α} {i k : Nat} (h : i < l.length) : (l.set i a).getD k d = if k = i then a else l.getD k d := by
  rw [List.getD_eq_getElem?_getD, List.getD_eq_getElem?_getD, List.getElem?_set]
  by_cases e : i = k
  · subst e; rw [if_pos rfl, if_pos h, if_pos rfl]; rfl
  · rw [if_neg e, if_neg (Ne.symm e)]
theorem Gr.ext {g g' : Gr} (h : g'.length = g.length) (hr : ∀ j, j < g.length → rl g' j = rl g j) (hc : ∀ j i, j < g.length → i < rl g j → cel g' i j = cel g i j) : g' = g := by
  refine List.ext_getElem h fun j h1 h2 => ?_
  have e1 := getD_at (d := []) h1
  have e2 := getD_at (d := []) h2
  have r := hr j h2
  unfold rl at r
  rw [← e1, ← e2]
  refine List.ext_getElem r fun i i1 i2 => ?_
  have c := hc j i h2 i2
  unfold cel at c
  rw [getD_at i1, getD_at i2] at c
  exact c
theorem IsP.unique {g g' g'' : Gr} {f : Nat → Nat → Option Str} (h : IsP g f g') (k : IsP g f g'') : g' = g'' := by
  refine Gr.ext (h.len.trans k.len.symm) (fun j hj => ?_) fun j i hj hi => ?_
  · rw [k.len] at hj
    rw [h.row j hj, k.row j hj]
  · rw [k.len] at hj
    rw [k.row j hj] at hi
    rw [h.cell j i hj hi, k.cell j i hj hi]
theorem IsP.none (g : Gr) : IsP g (fun _ _ => none) g := ⟨rfl, fun _ _ => rfl, fun _ _ _ _ => rfl⟩
theorem IsP.congr {g g' : Gr} {f f' : Nat → Nat → Option Str} (h : IsP g f g') (k : ∀ j i, j < g.length → i < rl g j → f i j = f' i j) : IsP g f' g' := ⟨h.len, h.row, fun j i hj hi => by rw [h.cell j i hj hi, k j i hj hi]⟩
theorem IsP.step {g g' : Gr} {f : Nat → Nat → Option Str} (h : IsP g f g') {i j : Nat} (hj : j < g.length) (hi : i < rl g j) (c : Str) : IsP g (fun a b => if b = j ∧ a = i then some c else f a b) (g'.set j ((g'.getD j []).set i c)) := by
  have hj' : j < g'.length := by rw [h.len]; exact hj
  refine ⟨by rw [List.length_set, h.len], fun b hb => ?_, fun b a hb ha => ?_⟩
  · unfold rl
    rw [getD_set hj']
    by_cases e : b = j
    · rw [if_pos e, List.length_set, e]; exact h.row j hj
    · rw [if_neg e]; exact h.row b hb
  · unfold cel
    rw [getD_set hj']
    by_cases e : b = j
    · subst e
      have hi' : i < (g'.getD b []).length := by have := h.row b hj; unfold rl at this hi; omega
      rw [if_pos rfl, getD_set hi']
      by_cases e2 : a = i
      · rw [if_pos e2, if_pos ⟨rfl, e2⟩]; rfl
      · rw [if_neg e2, if_neg (fun z => e2 z.2)]; exact h.cell b a hb ha
    · rw [if_neg e, if_neg (fun z => e z.1)]; exact h.cell b a hb ha
theorem GOk.rl {g : Gr} (h : GOk g) {j : Nat} (hj : j < g.length) : M3.rl g j = gw g := h.wr _ (getD_mem hj)
theorem IsP.gw {g g' : Gr} {f : Nat → Nat → Option Str} (h : IsP g f g') (hg : GOk g) : M3.gw g' = M3.gw g := by
  have h0 := hg.h0
  have r := h.row 0 (by omega)
  unfold M3.rl at r
  unfold M3.gw
  have e : ∀ l : Gr, l.headD [] = l.getD 0 [] := fun l => by cases l <;> rfl
  rw [e, e]; exact r
theorem IsP.gok {g g' : Gr} {f : Nat → Nat → Option Str} (h : IsP g f g') (hg : GOk g) (hf : ∀ i j c, f i j = some c → SgOk c) : GOk g' where
  h0 := by rw [h.len]; exact hg.h0
  h1 := by rw [h.len]; exact hg.h1
  w0 := by rw [h.gw hg]; exact hg.w0
  w1 := by rw [h.gw hg]; exact hg.w1
  wr r hr := by
    obtain ⟨j, hj, e⟩ := List.getElem_of_mem hr
    have hj' : j < g.length := by rw [← h.len]; exact hj
    have := h.row j hj'
    rw [hg.rl hj'] at this
    unfold rl at this
    rw [getD_at hj, e] at this
    rw [this, h.gw hg]
  sg r hr c hc := by
    obtain ⟨j, hj, e⟩ := List.getElem_of_mem hr
    obtain ⟨i, hi, e2⟩ := List.getElem_of_mem hc
    have hj' : j < g.length := by rw [← h.len]; exact hj
    have hr2 := h.row j hj'
    have er : (g'.getD j []) = r := by rw [getD_at hj, e]
    have hi' : i < rl g j := by
      rw [← hr2]
      unfold rl
      rw [er]; exact hi
    have cc := h.cell j i hj' hi'
    have ec : cel g' i j = c := by unfold cel; rw [er, getD_at hi, e2]
    rw [ec] at cc
    cases e3 : f i j with
    | none =>
      rw [e3] at cc
      rw [cc]
      unfold cel
      exact hg.sg _ (getD_mem hj') _ (getD_mem hi')
    | some d =>
      rw [e3] at cc
      rw [cc]
      exact hf i j d e3
theorem GridAt.set {S : Sto} {q : Addr} {g : Gr} {ra : Nat → Addr} (h : GridAt S q g ra) {j : Nat} (hj : j < g.length) (r : List Str) : GridAt (put S (ra j) (.lst (r.map W.str))) q (g.set j r) ra := by
  refine ⟨?_, fun b hb => ?_, fun b hb => h.ne b (by rw [List.length_set] at hb; exact hb), fun a b ha hb => h.inj a b (by rw [List.length_set] at ha; exact ha) (by rw [List.length_set] at hb; exact hb)⟩
  · rw [put_ne (h.ne j hj).symm, List.length_set]; exact h.top
  · rw [List.length_set] at hb
    rw [getD_set hj]
    by_cases e : b = j
    · subst e; rw [if_pos rfl, put_same]
    · rw [if_neg e, put_ne (fun z => e (h.inj b j hb hj z))]; exact h.row b hb
def rowsF (ra : Nat → Addr) (n : Nat) : Fp := fun x => ∃ j, j < n ∧ ra j = x
theorem getv_set {σ : Envr} {a : Nat} {v : W} (h : a < σ.length) : getv (σ.set a (some v)) a = some v := by
  unfold getv
  rw [List.getElem?_set_self h]
theorem set_cell {q : Addr} {g : Gr} {ra : Nat → Addr} {S : Sto} {i j : Nat} {c : Str} {Q : Sto → Prop} (h : GridAt S q g ra) (hj : j < g.length) (hi : i < rl g j) (hq : Q (put S (ra j) (.lst (((g.getD j []).set i c).map W.str)))) : setW (.ref (ra j)) (.int i) (.str c) S Q := by
  rw [set_refI, h.row j hj]
  dsimp only
  have e : ixN ((g.getD j []).map W.str).length (i : Int) = some i := by
    unfold ixN
    unfold rl at hi
    rw [if_pos (by omega), List.length_map, if_pos (by omega), Int.toNat_natCast]
  rw [e]
  dsimp only
  rw [← List.map_set]
  exact hq
theorem paint_in {G : Gs} {D : MEnds} {r a : Nat} {E : IE} {σ : Envr} {S : Sto} {q : Addr} {g : Gr} {ra : Nat → Addr} {st : Sto → Prop} {j left many : Nat} {f : Nat → Str} (P : Envr → Prop)
    (hP : P σ) (hPa : ∀ σ v, P σ → P (σ.set a (some v))) (hPr : ∀ σ, P σ → getv σ r = some (.ref (ra j))) (hPl : ∀ σ, P σ → a < σ.length)
    (hE : ∀ σ S' i (Q : WQ) X, P σ → getv σ a = some (.int (i : Nat)) → left ≤ i → i < left + many → Q (.str (f i)) S' → wpE G E σ S' Q X)
    (gat : GridAt S q g ra) (hj : j < g.length) (hc : left + many ≤ rl g j) (hst : ∀ S', st S')
    (hq : ∀ σ' S' g', P σ' → GridAt S' q g' ra → IsP g (fun i' j' => if j' = j ∧ left ≤ i' ∧ i' < left + many then some (f i') else none) g' → Own (rowsF ra g.length) S (rowsF ra g.length) S' → D.nx σ' S') :
    ForG G (.nm a) (.cons (.asg (.sub (.var r) (.var a)) E) .nil) D σ (rngW left many) st S := by
  refine ForG.by (fun k σ' S' => P σ' ∧ ∃ g', GridAt S' q g' ra ∧ IsP g (fun i' j' => if j' = j ∧ left ≤ i' ∧ i' < left + k then some (f i') else none) g' ∧ Own (rowsF ra g.length) S (rowsF ra g.length) S') S (Sub.refl _)
    ⟨hP, g, gat, (IsP.none g).congr fun j' i' _ _ => by rw [if_neg (by omega)], Own.refl _ _⟩ ?_ ?_
  · rintro k x σ' S' hx ⟨hP', g', ga, ip, ow⟩
    obtain ⟨hk, rfl⟩ := rng_at hx
    refine ⟨hst _, ?_⟩
    have e : ((left : Int) + (k : Int)) = ((left + k : Nat) : Int) := by push_cast; rfl
    rw [e]
    show wpS G (.asg (.sub (.var r) (.var a)) E) _ _ _
    rw [ws_asg]
    have P2 := hPa σ' (.int ((left + k : Nat) : Int)) hP'
    refine hE _ S' (left + k) _ _ P2 (getv_set (hPl σ' hP')) (by omega) (by omega) ?_
    show wpG G (.sub (.var r) (.var a)) _ _ _ _ _
    walk_at "wp"
    rw [hPr _ P2]
    dsimp only
    rw [getv_set (hPl σ' hP')]
    dsimp only
    have hj' : j < g'.length := by rw [ip.len]; exact hj
    have hi : left + k < rl g j := by omega
    refine set_cell ga hj' (by rw [ip.row j hj]; exact hi) ?_
    refine ⟨P2, _, ga.set hj' _, (ip.step hj hi (f (left + k))).congr fun j' i' _ _ => ?_, ow.trans (Own.put ⟨j, hj, rfl⟩)⟩
    by_cases c1 : j' = j ∧ i' = left + k
    · rw [if_pos c1, if_pos (by omega), c1.2]
    · rw [if_neg c1]
      by_cases c2 : j' = j ∧ left ≤ i' ∧ i' < left + k
      · rw [if_pos c2, if_pos (by omega)]
      · rw [if_neg c2, if_neg (by omega)]
  · rintro σ' S' ⟨hP', g', ga, ip, ow⟩
    rw [rng_len] at ip
    exact ⟨hst _, hq σ' S' g' hP' ga ip ow⟩
theorem paint_out {G : Gs} {D : MEnds} {r a : Nat} {E L R : IE} {σ : Envr} {S : Sto} {q : Addr} {g : Gr} {ra : Nat → Addr} {st : Sto → Prop} {top rows left many : Nat} {f : Nat → Str} (P : Envr → Prop) (hra : r ≠ a)
    (hP : P σ) (hPa : ∀ σ v, P σ → P (σ.set a (some v))) (hPr : ∀ σ v, P σ → P (σ.set r (some v))) (hPl : ∀ σ, P σ → a < σ.length ∧ r < σ.length)
    (hL : ∀ σ S' (Q : WQ) X, P σ → Q (.int left) S' → wpE G L σ S' Q X) (hR : ∀ σ S' (Q : WQ) X, P σ → Q (.int (left + many : Nat)) S' → wpE G R σ S' Q X)
    (hE : ∀ σ S' i (Q : WQ) X, P σ → getv σ a = some (.int (i : Nat)) → left ≤ i → i < left + many → Q (.str (f i)) S' → wpE G E σ S' Q X)
    (gat : GridAt S q g ra) (hg : GOk g) (ht : top + rows ≤ g.length) (hc : left + many ≤ gw g) (hst : ∀ S', st S')
    (hq : ∀ σ' S' g', P σ' → GridAt S' q g' ra → IsP g (fun i' j' => if top ≤ j' ∧ j' < top + rows ∧ left ≤ i' ∧ i' < left + many then some (f i') else none) g' → Own (rowsF ra g.length) S (rowsF ra g.length) S' → D.nx σ' S') :
    ForG G (.nm r) (.cons (.for (.nm a) (.rng2 L R) (.cons (.asg (.sub (.var r) (.var a)) E) .nil)) .nil) D σ ((List.range rows).map fun k => W.ref (ra (top + k))) st S := by
  refine ForG.by (fun k σ' S' => P σ' ∧ ∃ g', GridAt S' q g' ra ∧ IsP g (fun i' j' => if top ≤ j' ∧ j' < top + k ∧ left ≤ i' ∧ i' < left + many then some (f i') else none) g' ∧ Own (rowsF ra g.length) S (rowsF ra g.length) S') S (Sub.refl _)
    ⟨hP, g, gat, (IsP.none g).congr fun j' i' _ _ => by rw [if_neg (by omega)], Own.refl _ _⟩ ?_ ?_
  · rintro k x σ' S' hx ⟨hP', g', ga, ip, ow⟩
    rw [List.getElem?_map] at hx
    have hk : k < rows := by
      cases e : (List.range rows)[k]? with
      | none => rw [e] at hx; cases hx
      | some z =>
        have := (List.getElem?_eq_some_iff.mp e).1
        rwa [List.length_range] at this
    rw [List.getElem?_range hk] at hx
    cases hx
    refine ⟨hst _, ?_⟩
    show wpS G (.for (.nm a) (.rng2 L R) (.cons (.asg (.sub (.var r) (.var a)) E) .nil)) _ _ _
    rw [ws_for]
    have P2 := hPr σ' (.ref (ra (top + k))) hP'
    show wpI G (.rng2 L R) _ _ _ _
    unfold wpI
    refine hL _ _ _ _ P2 (hR _ _ _ _ P2 ?_)
    dsimp only
    have w1 := hg.w1
    refine ⟨⟨by omega, by omega⟩, ⟨by omega, by omega⟩, ?_⟩
    have e : (((left + many : Nat) : Int) - (left : Int)).toNat = many := by omega
    rw [e]
    have hj : top + k < g.length := by omega
    have hj' : top + k < g'.length := by rw [ip.len]; exact hj
    have hrl : rl g' (top + k) = gw g := by rw [ip.row _ hj, hg.rl hj]
    refine paint_in (j := top + k) (g := g') (f := f) (fun σ => P σ ∧ getv σ r = some (.ref (ra (top + k)))) ⟨P2, getv_set (hPl σ' hP').2⟩ (fun σ v h => ⟨hPa σ v h.1, ?_⟩) (fun σ h => h.2) (fun σ h => (hPl σ h.1).1) (fun σ S' i Q X h => hE σ S' i Q X h.1) ga hj' (by omega) (fun _ => trivial) fun σ2 S2 g2 P3 ga2 ip2 ow2 => ?_
    · unfold getv
      rw [List.getElem?_set_ne hra.symm]
      exact h.2
    · refine ⟨P3.1, g2, ga2, ⟨ip2.len.trans ip.len, fun j hj => (ip2.row j (by rw [ip.len]; exact hj)).trans (ip.row j hj), fun j i hj hi => ?_⟩, ow.trans ?_⟩
      · rw [ip2.cell j i (by rw [ip.len]; exact hj) (by rw [ip.row j hj]; exact hi)]
        by_cases c : j = top + k ∧ left ≤ i ∧ i < left + many
        · rw [if_pos c, if_pos (by omega)]; rfl
        · rw [if_neg c, Option.getD_none, ip.cell j i hj hi]
          by_cases c2 : top ≤ j ∧ j < top + k ∧ left ≤ i ∧ i < left + many
          · rw [if_pos c2, if_pos (by omega)]
          · rw [if_neg c2, if_neg (by omega)]
      · rw [ip.len] at ow2; exact ow2
  · rintro σ' S' ⟨hP', g', ga, ip, ow⟩
    rw [List.length_map, List.length_range] at ip
    exact ⟨hst _, hq σ' S' g' hP' ga ip ow⟩
def cutA (s e : Int) : Int := min (max s 0) e
def cutM (s l e : Int) : Int := min (max (s + l) (cutA s e)) e - cutA s e
theorem cut_facts (s l e : Int) (he : 0 ≤ e) : 0 ≤ cutA s e ∧ 0 ≤ cutM s l e ∧ cutA s e + cutM s l e ≤ e ∧ ∀ i, 0 ≤ i → i < e → (cutA s e ≤ i ∧ i < cutA s e + cutM s l e ↔ s ≤ i ∧ i < s + l) := by
  unfold cutM cutA
  refine ⟨by omega, by omega, by omega, fun i h0 h1 => by omega⟩
def N_cut_between : List Str := ["start", "length", "end", "first", "behind"]
def ir_cut_between : ISs := .cons (.set 3 (.mn (.mx (.var 0) (.cst (.int 0))) (.var 2))) (.cons (.set 4 (.mn (.mx (.bin .add (.var 0) (.var 1)) (.var 3)) (.var 2))) (.cons (.ret (.tup (.cons (.var 3) (.cons (.bin .sub (.var 4) (.var 3)) .nil)))) .nil))
def sp_cut_between : MSp := fun ws S Q _ => ∃ s l e : Int, ws = [.int s, .int l, .int e] ∧ Q (.tup [.int (cutA s e), .int (cutM s l e)]) S
theorem pf_cut_between (G : Gs) (ws : List W) (S : Sto) (Q : WQ) (X : XQ) (h : sp_cut_between ws S Q X) : ws.length = 3 ∧ wpF G 5 ir_cut_between ws S Q X := by
  obtain ⟨s, l, e, rfl, hq⟩ := h
  refine ⟨rfl, ?_⟩
  unfold wpF ir_cut_between
  walk_at "wp"
  exact ⟨by rw [sizeLine_val]; decide, _, Sub.refl _, hq⟩
section
variable {cl : Nat → Addr} {S S' : Sto} {H : Shs} {ad : ShR → Addr}
theorem Lay.paintB {b : ShR → Prop} (l : Lay S (fun x => H.ok x ∧ b x) (H.cont cl ad) ad) {k : Nat} (hb : ∀ j, b (.row k j)) {g g' : Gr} (e : H.gr[k]? = some g) (ga : GridAt S' (ad (.grid k)) g' (fun j => ad (.row k j))) (hl : g'.length = g.length) (hw : gw g' = gw g)
    (ow : Own (rowsF (fun j => ad (.row k j)) g.length) S (rowsF (fun j => ad (.row k j)) g.length) S') : Lay S' (fun x => Shs.ok ⟨H.gr.set k g', H.dd⟩ x ∧ b x) (Shs.cont cl ⟨H.gr.set k g', H.dd⟩ ad) ad ∧ ∀ x, Shs.ok ⟨H.gr.set k g', H.dd⟩ x ↔ H.ok x := by
  have hk := (List.getElem?_eq_some_iff.mp e).1
  have eg := Shs.g_of e
  have gne : ∀ i, i ≠ k → Shs.g ⟨H.gr.set k g', H.dd⟩ i = H.g i := fun i hi => by
    show (H.gr.set k g').getD i [] = H.gr.getD i []
    rw [getD_set hk, if_neg hi]
  have gk : Shs.g ⟨H.gr.set k g', H.dd⟩ k = g' := by
    show (H.gr.set k g').getD k [] = g'
    rw [getD_set hk, if_pos rfl]
  have gl : ∀ i, (Shs.g ⟨H.gr.set k g', H.dd⟩ i).length = (H.g i).length := fun i => by
    by_cases h : i = k
    · subst h; rw [gk, eg, hl]
    · rw [gne i h]
  have hok : ∀ x, Shs.ok ⟨H.gr.set k g', H.dd⟩ x ↔ H.ok x := fun x => by
    cases x with
    | obj => exact Iff.rfl
    | sizes => exact Iff.rfl
    | grids => exact Iff.rfl
    | deeds => exact Iff.rfl
    | grid i => show i < (H.gr.set k g').length ↔ _; rw [List.length_set]; exact Iff.rfl
    | row i j => show i < (H.gr.set k g').length ∧ j < _ ↔ _; rw [List.length_set, gl]; exact Iff.rfl
  have keep : ∀ x, H.ok x ∧ b x → (∀ j, x ≠ .row k j) → S' (ad x) = some (H.cont cl ad x) := fun x hx hn => by
    refine ow.at ?_ (l.at_ x hx)
    rintro ⟨j, hj, z⟩
    exact hn j (l.inj (.row k j) x ⟨⟨hk, by rw [eg]; exact hj⟩, hb j⟩ hx z).symm
  refine ⟨⟨fun x hx => ?_, fun x y hx hy => l.inj x y ⟨(hok x).mp hx.1, hx.2⟩ ⟨(hok y).mp hy.1, hy.2⟩⟩, hok⟩
  have hx' : H.ok x ∧ b x := ⟨(hok x).mp hx.1, hx.2⟩
  cases x with
  | obj => exact keep _ hx' nofun
  | sizes =>
    rw [keep _ hx' nofun]
    show some (MO.lst (H.gr.map szW)) = some (.lst ((H.gr.set k g').map szW))
    rw [List.map_set]
    have e2 : (H.gr.map szW)[k]? = some (szW g') := by
      rw [List.getElem?_map, e]
      unfold szW
      rw [hl, hw]; rfl
    congr 2
    refine List.ext_getElem? fun i => ?_
    rw [List.getElem?_set]
    by_cases h : k = i
    · subst h; rw [if_pos rfl, if_pos (by rw [List.length_map]; exact hk), e2]
    · rw [if_neg h]
  | grids =>
    rw [keep _ hx' nofun]
    show some (MO.lst ((List.range H.gr.length).map _)) = some (.lst ((List.range (H.gr.set k g').length).map _))
    rw [List.length_set]
  | deeds => exact keep _ hx' nofun
  | grid i =>
    rw [keep _ hx' nofun]
    show some (MO.lst ((List.range (H.g i).length).map _)) = some (.lst ((List.range (Shs.g ⟨H.gr.set k g', H.dd⟩ i).length).map _))
    rw [gl]
  | row i j =>
    by_cases h : i = k
    · subst h
      have hj : j < g'.length := by
        have := hx.1.2
        rwa [gk] at this
      have := ga.row j hj
      rw [this]
      show _ = some (MO.lst (((Shs.g ⟨H.gr.set i g', H.dd⟩ i).getD j []).map W.str))
      rw [gk]
    · rw [keep _ hx' (fun j' z => h (by cases z; rfl))]
      show _ = some (MO.lst (((Shs.g ⟨H.gr.set k g', H.dd⟩ i).getD j []).map W.str))
      rw [gne i h]; rfl
theorem Lay.paint (l : Lay S H.ok (H.cont cl ad) ad) {k : Nat} {g g' : Gr} (e : H.gr[k]? = some g) (ga : GridAt S' (ad (.grid k)) g' (fun j => ad (.row k j))) (hl : g'.length = g.length) (hw : gw g' = gw g)
    (ow : Own (rowsF (fun j => ad (.row k j)) g.length) S (rowsF (fun j => ad (.row k j)) g.length) S') : Lay S' (Shs.ok ⟨H.gr.set k g', H.dd⟩) (Shs.cont cl ⟨H.gr.set k g', H.dd⟩ ad) ad ∧ ∀ x, Shs.ok ⟨H.gr.set k g', H.dd⟩ x ↔ H.ok x := by
  obtain ⟨a, b⟩ := Lay.paintB (b := fun _ => True) ⟨fun x hx => l.at_ x hx.1, fun x y hx hy => l.inj x y hx.1 hy.1⟩ (fun _ => trivial) e ga hl hw ow
  exact ⟨⟨fun x hx => a.at_ x ⟨hx, trivial⟩, fun x y hx hy => a.inj x y ⟨hx, trivial⟩ ⟨hy, trivial⟩⟩, b⟩
end
def N_Sheets_cells_met : List Str := ["self", "sheet", "x", "y", "w", "h", "wide", "high", "left", "many", "top", "rows"]
def ir_Sheets_cells_met : ISs := .cons (.asg (.tup (.cons (.nm 6) (.cons (.nm 7) .nil))) (.meth 413 10 "size_of" (.var 0) (.cons (.var 1) .nil))) (.cons (.asg (.tup (.cons (.nm 8) (.cons (.nm 9) .nil))) (.call 77 (.cons (.var 2) (.cons (.var 4) (.cons (.var 6) .nil))))) (.cons (.asg (.tup (.cons (.nm 10) (.cons (.nm 11) .nil))) (.call 77 (.cons (.var 3) (.cons (.var 5) (.cons (.var 7) .nil))))) (.cons (.exp (.app (.fld 10 (.var 0) "deeds") (.tup (.cons (.var 1) (.cons (.tup (.cons (.var 8) (.cons (.var 10) (.cons (.var 9) (.cons (.var 11) .nil))))) .nil))))) (.cons (.ret (.tup (.cons (.var 8) (.cons (.var 10) (.cons (.var 9) (.cons (.var 11) .nil)))))) .nil))))
def dOf (k : Nat) (g : Gr) (x y w h : Int) : Int × Int × Int × Int × Int := (k, cutA x (gw g), cutA y g.length, cutM x w (gw g), cutM y h g.length)
def sp_Sheets_cells_met (cl : Nat → Addr) : MSp := fun ws S Q X => ∃ (s : Addr) (H : Shs) (F : Fp) (n x y w h : Int), ws = [.ref s, .int n, .int x, .int y, .int w, .int h] ∧ ShAt cl S s H F ∧ H.gr.length ≤ 1000 ∧ H.dd.length ≤ 1000000 ∧
  (∀ (k : Nat) (g : Gr), n = k → H.gr[k]? = some g → ∀ S', ShAt cl S' s ⟨H.gr, H.dd ++ [dOf k g x y w h]⟩ F → Own F S F S' →
    Q (.tup [.int (cutA x (gw g)), .int (cutA y g.length), .int (cutM x w (gw g)), .int (cutM y h g.length)]) S') ∧ ((n < 0 ∨ (H.gr.length : Int) ≤ n) → X (cl 2) S)
theorem pf_Sheets_cells_met (G : Gs) (hG413 : G 413 = sp_Sheets_size_of G.cl) (hG77 : G 77 = sp_cut_between) (ws : List W) (S : Sto) (Q : WQ) (X : XQ) (h : sp_Sheets_cells_met G.cl ws S Q X) : ws.length = 6 ∧ wpF G 12 ir_Sheets_cells_met ws S Q X := by
  obtain ⟨s, H, F, n, x, y, w, h, rfl, hs, hl, hd, hq, hn⟩ := h
  refine ⟨rfl, ?_⟩
  unfold wpF ir_Sheets_cells_met
  walk_at "wp"
  simp only [hG413, hG77]
  refine ⟨hs.ins ⟨by decide +kernel, by decide +kernel, by decide +kernel⟩, s, H, F, n, rfl, hs, hl, fun k g e hk => ?_, fun ho => ⟨_, Sub.refl _, hn ho⟩⟩
  subst e
  unfold szW
  walk_at "wp"
  refine ⟨_, _, _, rfl, ?_⟩
  walk_at "wp"
  refine ⟨_, _, _, rfl, ?_⟩
  obtain ⟨ad, l, rfl, hf⟩ := hs
  have e0 : S (ad .obj) = some (.ins (G.cl 10) [("sizes", .ref (ad .sizes)), ("grids", .ref (ad .grids)), ("deeds", .ref (ad .deeds))]) := l.at_ .obj trivial
  have ed : S (ad .deeds) = some (.lst (H.dd.map ddW)) := l.at_ .deeds trivial
  walk_at "wp"
  simp only [fld_deeds e0, ed]
  refine ⟨trivial, by rw [sizeLine_val]; decide, by rw [sizeLine_val]; decide, by rw [List.length_map, sizeLine_val]; omega, by rw [sizeLine_val]; decide, _, Sub.refl _, hq k g rfl hk _ ⟨ad, ?_, rfl, hf⟩ (Own.put ((hf _).mpr ⟨.deeds, trivial, rfl⟩))⟩
  have := l.put (x := .deeds) (cont' := Shs.cont G.cl ⟨H.gr, H.dd ++ [dOf k g x y w h]⟩ ad) trivial fun z _ hz => by cases z <;> first | rfl | exact (hz rfl).elim
  have e2 : Shs.cont G.cl ⟨H.gr, H.dd ++ [dOf k g x y w h]⟩ ad .deeds = .lst (H.dd.map ddW ++ [.tup [.int k, .tup [.int (cutA x (gw g)), .int (cutA y g.length), .int (cutM x w (gw g)), .int (cutM y h g.length)]]]) := by
    show MO.lst ((H.dd ++ [dOf k g x y w h]).map ddW) = _
    rw [List.map_append]; rfl
  rw [e2] at this
  exact this
def sgAt (t : Str) (k : Nat) : Str := ⟨#[t.cps.toList.getD k 0]⟩
def wF (x y : Int) (t : Str) : Nat → Nat → Option Str := fun i j => if y ≤ j ∧ (j : Int) < y + 1 ∧ x ≤ i ∧ (i : Int) < x + t.length then some (sgAt t ((i : Int) - x).toNat) else none
def fF (x y w h : Int) (c : Str) : Nat → Nat → Option Str := fun i j => if y ≤ j ∧ (j : Int) < y + h ∧ x ≤ i ∧ (i : Int) < x + w then some c else none
theorem cutW_range {α : Type} {n a b : Nat} {f : Nat → α} (h : a + b ≤ n) : cutW ((List.range n).map f) (some (a : Int)) (some ((a : Int) + b)) = (List.range b).map fun k => f (a + k) := by
  have e1 : HT.sIx ((List.range n).map f).length 0 (some (a : Int)) = a := by
    unfold HT.sIx
    rw [List.length_map, List.length_range]
    dsimp only
    split <;> omega
  have e2 : HT.sIx ((List.range n).map f).length ((List.range n).map f).length (some ((a : Int) + b)) = a + b := by
    unfold HT.sIx
    rw [List.length_map, List.length_range]
    dsimp only
    split <;> omega
  unfold cutW
  rw [e1, e2, Nat.add_sub_cancel_left]
  refine List.ext_getElem? fun i => ?_
  rw [List.getElem?_take, List.getElem?_map]
  by_cases hi : i < b
  · rw [if_pos hi, List.getElem?_drop, List.getElem?_map, List.getElem?_range hi, List.getElem?_range (by omega)]; rfl
  · rw [if_neg hi, List.getElem?_eq_none (by rw [List.length_range]; omega)]; rfl
theorem getv_ne {σ : Envr} {i a : Nat} {v : W} (h : a ≠ i) : getv (σ.set a (some v)) i = getv σ i := by
  unfold getv
  rw [List.getElem?_set_ne h]
def N_Sheets_write : List Str := ["self", "sheet", "x", "y", "text", "left", "top", "many", "rows", "row", "at"]
def ir_Sheets_write : ISs := .cons (.asg (.tup (.cons (.nm 5) (.cons (.nm 6) (.cons (.nm 7) (.cons (.nm 8) .nil))))) (.meth 416 10 "cells_met" (.var 0) (.cons (.var 1) (.cons (.var 2) (.cons (.var 3) (.cons (.len (.var 4)) (.cons (.cst (.int 1)) .nil))))))) (.cons (.for (.nm 9) (.lst (.t (.slc (.of (.idx (.fld 10 (.var 0) "grids") (.var 1))) (.some (.var 6)) (.some (.bin .add (.var 6) (.var 8)))))) (.cons (.for (.nm 10) (.rng2 (.var 5) (.bin .add (.var 5) (.var 7))) (.cons (.asg (.sub (.var 9) (.var 10)) (.idx (.var 4) (.bin .sub (.var 10) (.var 2)))) .nil)) .nil)) .nil)
def sp_Sheets_write (cl : Nat → Addr) : MSp := fun ws S Q X => ∃ (s : Addr) (H : Shs) (F : Fp) (n x y : Int) (t : Str), ws = [.ref s, .int n, .int x, .int y, .str t] ∧ ShAt cl S s H F ∧ H.gr.length ≤ 1000 ∧ H.dd.length ≤ 1000000 ∧ (∀ g ∈ H.gr, GOk g) ∧ t.length ≤ 1000000 ∧
  (∀ (k : Nat) (g : Gr), n = k → H.gr[k]? = some g → ∀ g' S', IsP g (wF x y t) g' → ShAt cl S' s ⟨H.gr.set k g', H.dd ++ [dOf k g x y t.length 1]⟩ F → Own F S F S' → Q .non S') ∧ ((n < 0 ∨ (H.gr.length : Int) ≤ n) → X (cl 2) S)
theorem pf_Sheets_write (G : Gs) (hG416 : G 416 = sp_Sheets_cells_met G.cl) (ws : List W) (S : Sto) (Q : WQ) (X : XQ) (h : sp_Sheets_write G.cl ws S Q X) : ws.length = 5 ∧ wpF G 11 ir_Sheets_write ws S Q X := by
  obtain ⟨s, H, F, n, x, y, t, rfl, hs, hl, hd, hw, ht, hq, hn⟩ := h
  refine ⟨rfl, ?_⟩
  have elen : lenW (.str t) S = some t.length := if_pos (by rw [sizeLine_val]; omega)
  unfold wpF ir_Sheets_write
  walk_at "wp"
  simp only [hG416, elen]
  refine ⟨hs.ins ⟨by decide +kernel, by decide +kernel, by decide +kernel⟩, s, H, F, n, x, y, _, _, rfl, hs, hl, hd, fun k g e hk S1 hs1 ow1 => ?_, fun ho => ⟨_, Sub.refl _, hn ho⟩⟩
  subst e
  have hg := hw g (List.mem_of_getElem? hk)
  have hlt := (List.getElem?_eq_some_iff.mp hk).1
  obtain ⟨ad, l, rfl, hf⟩ := hs1
  have e0 : S1 (ad .obj) = some (.ins (G.cl 10) [("sizes", .ref (ad .sizes)), ("grids", .ref (ad .grids)), ("deeds", .ref (ad .deeds))]) := l.at_ .obj trivial
  have eb : S1 (ad .grids) = some (.lst ((List.range H.gr.length).map fun i => .ref (ad (.grid i)))) := l.at_ .grids trivial
  have ga : GridAt S1 (ad (.grid k)) g fun j => ad (.row k j) := l.grid (H := ⟨H.gr, H.dd ++ [dOf k g x y t.length 1]⟩) hk
  obtain ⟨a0, a1, a2, a3⟩ := cut_facts x t.length (gw g) (by omega)
  obtain ⟨b0, b1, b2, b3⟩ := cut_facts y 1 g.length (by omega)
  generalize hA : cutA x (gw g) = A at *
  generalize hM : cutM x t.length (gw g) = M at *
  generalize hB : cutA y g.length = B at *
  generalize hN : cutM y 1 g.length = N at *
  obtain ⟨A, rfl⟩ := Int.eq_ofNat_of_zero_le a0
  obtain ⟨M, rfl⟩ := Int.eq_ofNat_of_zero_le a1
  obtain ⟨B, rfl⟩ := Int.eq_ofNat_of_zero_le b0
  obtain ⟨N, rfl⟩ := Int.eq_ofNat_of_zero_le b1
  walk_at "wp"
  simp only [fld_grids e0, idx_ref, eb, atI_range hlt, ga.top]
  refine ⟨nofun, trivial, ?_⟩
  rw [cutW_range (by omega)]
  refine paint_out (q := ad (.grid k)) (g := g) (ra := fun j => ad (.row k j)) (top := B) (rows := N) (left := A) (many := M) (f := fun i => sgAt t ((i : Int) - x).toNat) (fun σ => getv σ 2 = some (.int x) ∧ getv σ 4 = some (.str t) ∧ getv σ 5 = some (.int A) ∧ getv σ 7 = some (.int M) ∧ σ.length = 11) (by decide) ⟨rfl, rfl, rfl, rfl, rfl⟩ (fun σ v h => ?_) (fun σ v h => ?_) (fun σ h => ?_) (fun σ S' Q' X' h hQ => ?_) (fun σ S' Q' X' h hQ => ?_) (fun σ S' i Q' X' h hi h1 h2 hQ => ?_) ga hg (by omega) (by omega) (fun _ => trivial) fun σ2 S2 g' _ ga2 ip ow2 => ?_
  · obtain ⟨hx, ht', hL, hM', hl⟩ := h
    exact ⟨by rw [getv_ne (by decide)]; exact hx, by rw [getv_ne (by decide)]; exact ht', by rw [getv_ne (by decide)]; exact hL, by rw [getv_ne (by decide)]; exact hM', by rw [List.length_set]; exact hl⟩
  · obtain ⟨hx, ht', hL, hM', hl⟩ := h
    exact ⟨by rw [getv_ne (by decide)]; exact hx, by rw [getv_ne (by decide)]; exact ht', by rw [getv_ne (by decide)]; exact hL, by rw [getv_ne (by decide)]; exact hM', by rw [List.length_set]; exact hl⟩
  · obtain ⟨hx, ht', hL, hM', hl⟩ := h
    exact ⟨by omega, by omega⟩
  · obtain ⟨hx, ht', hL, hM', hl⟩ := h
    walk_at "wp"
    rw [hL]
    exact hQ
  · obtain ⟨hx, ht', hL, hM', hl⟩ := h
    walk_at "wp"
    rw [hL, hM']
    walk_at "wp"
    exact hQ
  · obtain ⟨hx, ht', hL, hM', hl⟩ := h
    walk_at "wp"
    rw [ht', hi, hx]
    walk_at "wp"
    have h3 := (a3 i (by omega) (by omega)).mp ⟨by omega, by omega⟩
    have e : idxW (.str t) (.int ((i : Int) - x)) S' = some (.str (sgAt t ((i : Int) - x).toNat)) := by
      have hlt2 : ((i : Int) - x).toNat < t.cps.toList.length := by
        have : t.cps.toList.length = t.length := rfl
        omega
      have e1 : idxW (.str t) (.int ((i : Int) - x)) S' = (atI t.cps.toList ((i : Int) - x)).map fun c => .str ⟨#[c]⟩ := if_pos (by rw [sizeLine_val]; omega)
      have e2 : atI t.cps.toList ((i : Int) - x) = some (t.cps.toList.getD ((i : Int) - x).toNat 0) := by
        have e3 : ((i : Int) - x) = ((((i : Int) - x).toNat : Nat) : Int) := by omega
        rw [e3]
        refine atI_nat ?_
        rw [Int.toNat_natCast, List.getD_eq_getElem?_getD, List.getElem?_eq_getElem hlt2]; rfl
      rw [e1, e2]; rfl
    rw [e]
    exact hQ
  · have ip' : IsP g (wF x y t) g' := ip.congr fun j i hj hi => by
      have hi' : i < gw g := by rw [hg.rl hj] at hi; exact hi
      have u1 := a3 i (by omega) (by omega)
      have u2 := b3 j (by omega) (by omega)
      unfold wF
      by_cases c : B ≤ j ∧ j < B + N ∧ A ≤ i ∧ i < A + M
      · rw [if_pos c, if_pos (by omega)]
      · rw [if_neg c, if_neg (by omega)]
    obtain ⟨l2, ok2⟩ := l.paint (H := ⟨H.gr, H.dd ++ [dOf k g x y t.length 1]⟩) hk ga2 ip.len (ip.gw hg) ow2
    have own2 : Own F S F S2 := ow1.trans (ow2.wide fun z ⟨j, hj, e⟩ => (hf z).mpr ⟨.row k j, ⟨hlt, by rw [Shs.g_of (H := ⟨H.gr, H.dd ++ [dOf k g x y t.length 1]⟩) hk]; exact hj⟩, e⟩)
    walk_at "wp"
    exact ⟨_, Sub.refl _, hq k g rfl hk g' S2 ip' ⟨ad, l2, rfl, fun z => (hf z).trans ⟨fun ⟨w, h1, h2⟩ => ⟨w, (ok2 w).mpr h1, h2⟩, fun ⟨w, h1, h2⟩ => ⟨w, (ok2 w).mp h1, h2⟩⟩⟩ own2⟩
def N_Sheets_fill_v3 : List Str := ["self", "sheet", "x", "y", "w", "h", "sign", "left", "top", "many", "rows", "row", "at"]
def ir_Sheets_fill_v3 : ISs := .cons (.asg (.tup (.cons (.nm 7) (.cons (.nm 8) (.cons (.nm 9) (.cons (.nm 10) .nil))))) (.meth 416 10 "cells_met" (.var 0) (.cons (.var 1) (.cons (.var 2) (.cons (.var 3) (.cons (.var 4) (.cons (.var 5) .nil))))))) (.cons (.for (.nm 11) (.lst (.t (.slc (.of (.idx (.fld 10 (.var 0) "grids") (.var 1))) (.some (.var 8)) (.some (.bin .add (.var 8) (.var 10)))))) (.cons (.for (.nm 12) (.rng2 (.var 7) (.bin .add (.var 7) (.var 9))) (.cons (.asg (.sub (.var 11) (.var 12)) (.var 6)) .nil)) .nil)) .nil)
def sp_Sheets_fill_v3 (cl : Nat → Addr) : MSp := fun ws S Q X => ∃ (s : Addr) (H : Shs) (F : Fp) (n x y w h : Int) (c : Str), ws = [.ref s, .int n, .int x, .int y, .int w, .int h, .str c] ∧ ShAt cl S s H F ∧ H.gr.length ≤ 1000 ∧ H.dd.length ≤ 1000000 ∧ (∀ g ∈ H.gr, GOk g) ∧
  (∀ (k : Nat) (g : Gr), n = k → H.gr[k]? = some g → ∀ g' S', IsP g (fF x y w h c) g' → ShAt cl S' s ⟨H.gr.set k g', H.dd ++ [dOf k g x y w h]⟩ F → Own F S F S' → Q .non S') ∧ ((n < 0 ∨ (H.gr.length : Int) ≤ n) → X (cl 2) S)
theorem pf_Sheets_fill_v3 (G : Gs) (hG416 : G 416 = sp_Sheets_cells_met G.cl) (ws : List W) (S : Sto) (Q : WQ) (X : XQ) (h : sp_Sheets_fill_v3 G.cl ws S Q X) : ws.length = 7 ∧ wpF G 13 ir_Sheets_fill_v3 ws S Q X := by
  obtain ⟨s, H, F, n, x, y, w, h, c, rfl, hs, hl, hd, hw, hq, hn⟩ := h
  refine ⟨rfl, ?_⟩
  unfold wpF ir_Sheets_fill_v3
  walk_at "wp"
  simp only [hG416]
  refine ⟨hs.ins ⟨by decide +kernel, by decide +kernel, by decide +kernel⟩, s, H, F, n, x, y, _, _, rfl, hs, hl, hd, fun k g e hk S1 hs1 ow1 => ?_, fun ho => ⟨_, Sub.refl _, hn ho⟩⟩
  subst e
  have hg := hw g (List.mem_of_getElem? hk)
  have hlt := (List.getElem?_eq_some_iff.mp hk).1
  obtain ⟨ad, l, rfl, hf⟩ := hs1
  have e0 : S1 (ad .obj) = some (.ins (G.cl 10) [("sizes", .ref (ad .sizes)), ("grids", .ref (ad .grids)), ("deeds", .ref (ad .deeds))]) := l.at_ .obj trivial
  have eb : S1 (ad .grids) = some (.lst ((List.range H.gr.length).map fun i => .ref (ad (.grid i)))) := l.at_ .grids trivial
  have ga : GridAt S1 (ad (.grid k)) g fun j => ad (.row k j) := l.grid (H := ⟨H.gr, H.dd ++ [dOf k g x y w h]⟩) hk
  obtain ⟨a0, a1, a2, a3⟩ := cut_facts x w (gw g) (by omega)
  obtain ⟨b0, b1, b2, b3⟩ := cut_facts y h g.length (by omega)
  generalize hA : cutA x (gw g) = A at *
  generalize hM : cutM x w (gw g) = M at *
  generalize hB : cutA y g.length = B at *
  generalize hN : cutM y h g.length = N at *
  obtain ⟨A, rfl⟩ := Int.eq_ofNat_of_zero_le a0
  obtain ⟨M, rfl⟩ := Int.eq_ofNat_of_zero_le a1
  obtain ⟨B, rfl⟩ := Int.eq_ofNat_of_zero_le b0
  obtain ⟨N, rfl⟩ := Int.eq_ofNat_of_zero_le b1
  walk_at "wp"
  simp only [fld_grids e0, idx_ref, eb, atI_range hlt, ga.top]
  refine ⟨nofun, trivial, ?_⟩
  rw [cutW_range (by omega)]
  refine paint_out (q := ad (.grid k)) (g := g) (ra := fun j => ad (.row k j)) (top := B) (rows := N) (left := A) (many := M) (f := fun _ => c) (fun σ => getv σ 6 = some (.str c) ∧ getv σ 7 = some (.int A) ∧ getv σ 9 = some (.int M) ∧ σ.length = 13) (by decide) ⟨rfl, rfl, rfl, rfl⟩ (fun σ v h => ?_) (fun σ v h => ?_) (fun σ h => ?_) (fun σ S' Q' X' h hQ => ?_) (fun σ S' Q' X' h hQ => ?_) (fun σ S' i Q' X' h hi h1 h2 hQ => ?_) ga hg (by omega) (by omega) (fun _ => trivial) fun σ2 S2 g' _ ga2 ip ow2 => ?_
  · obtain ⟨hx, hL, hM', hl⟩ := h
    exact ⟨by rw [getv_ne (by decide)]; exact hx, by rw [getv_ne (by decide)]; exact hL, by rw [getv_ne (by decide)]; exact hM', by rw [List.length_set]; exact hl⟩
  · obtain ⟨hx, hL, hM', hl⟩ := h
    exact ⟨by rw [getv_ne (by decide)]; exact hx, by rw [getv_ne (by decide)]; exact hL, by rw [getv_ne (by decide)]; exact hM', by rw [List.length_set]; exact hl⟩
  · obtain ⟨hx, hL, hM', hl⟩ := h
    exact ⟨by omega, by omega⟩
  · obtain ⟨hx, hL, hM', hl⟩ := h
    walk_at "wp"
    rw [hL]
    exact hQ
  · obtain ⟨hx, hL, hM', hl⟩ := h
    walk_at "wp"
    rw [hL, hM']
    walk_at "wp"
    exact hQ
  · obtain ⟨hx, hL, hM', hl⟩ := h
    walk_at "wp"
    rw [hx]
    exact hQ
  · have ip' : IsP g (fF x y w h c) g' := ip.congr fun j i hj hi => by
      have hi' : i < gw g := by rw [hg.rl hj] at hi; exact hi
      have u1 := a3 i (by omega) (by omega)
      have u2 := b3 j (by omega) (by omega)
      unfold fF
      by_cases c : B ≤ j ∧ j < B + N ∧ A ≤ i ∧ i < A + M
      · rw [if_pos c, if_pos (by omega)]
      · rw [if_neg c, if_neg (by omega)]
    obtain ⟨l2, ok2⟩ := l.paint (H := ⟨H.gr, H.dd ++ [dOf k g x y w h]⟩) hk ga2 ip.len (ip.gw hg) ow2
    have own2 : Own F S F S2 := ow1.trans (ow2.wide fun z ⟨j, hj, e⟩ => (hf z).mpr ⟨.row k j, ⟨hlt, by rw [Shs.g_of (H := ⟨H.gr, H.dd ++ [dOf k g x y w h]⟩) hk]; exact hj⟩, e⟩)
    walk_at "wp"
    exact ⟨_, Sub.refl _, hq k g rfl hk g' S2 ip' ⟨ad, l2, rfl, fun z => (hf z).trans ⟨fun ⟨w, h1, h2⟩ => ⟨w, (ok2 w).mpr h1, h2⟩, fun ⟨w, h1, h2⟩ => ⟨w, (ok2 w).mp h1, h2⟩⟩⟩ own2⟩
theorem SubX.own {S S' : Sto} {p : Addr} (h : SubX S p S') : Own (fun q => q = p) S (fun q => q = p) S' := ⟨fun q o n e => h q o n e, fun q h => .inl h⟩
def SzOk (w h : Int) : Prop := 1 ≤ w ∧ w ≤ 60 ∧ 1 ≤ h ∧ h ≤ 60
theorem Own.base {F F' : Fp} {S0 S S' : Sto} (h : Own F S F' S') (s : Sub S0 S) (n : ∀ q, F q → S0 q = none) : Sub S0 S' ∧ ∀ q, F' q → S0 q = none := by
  refine ⟨fun q o e => h.fr q o (fun k => ?_) (s q o e), fun q k => ?_⟩
  · rw [n q k] at e; cases e
  · rcases h.nw q k with z | z
    · exact n q z
    · exact s.none z
def gm (m : Int × Int × Str) : Gr := mkG m.1 m.2.1 m.2.2
def mW (m : Int × Int × Str) : W := .tup [.int m.1, .int m.2.1, .str m.2.2]
structure J15 (cl : Nat → Addr) (S0 S : Sto) (s md : Addr) (mk : List (Int × Int × Str)) (F : Fp) : Prop where
  sub : Sub S0 S
  sh : ShAt cl S s ⟨mk.map gm, []⟩ F
  mdl : S md = some (.lst (mk.map mW))
  nmd : ¬ F md
  zF : ∀ q, F q → S0 q = none
  zm : S0 md = none
  ok : ∀ m ∈ mk, SzOk m.1 m.2.1 ∧ SgOk m.2.2
section
variable {cl : Nat → Addr} {S0 S S' : Sto} {s md : Addr} {mk : List (Int × Int × Str)} {F : Fp} {p : Addr} {o : MO}
theorem J15.less (j : J15 cl S0 S s md mk F) (k : Sub S S') : J15 cl S0 S' s md mk F := ⟨j.sub.trans k, j.sh.sub k, k _ _ j.mdl, j.nmd, j.zF, j.zm, j.ok⟩
theorem J15.put (j : J15 cl S0 S s md mk F) (np : p ≠ md) (nf : ¬ F p) (zp : S0 p = none) : J15 cl S0 (M3.put S p o) s md mk F :=
  ⟨j.sub.upd zp, j.sh.put nf, by rw [put_ne np.symm]; exact j.mdl, j.nmd, j.zF, j.zm, j.ok⟩
theorem J15.wf (j : J15 cl S0 S s md mk F) : ∀ g ∈ mk.map gm, GOk g := fun g hg => by
  obtain ⟨m, hm, rfl⟩ := List.mem_map.mp hg
  obtain ⟨⟨w0, w1, h0, h1⟩, hc⟩ := j.ok m hm
  exact GOk.mk' w0 w1 h0 h1 hc
theorem J15.eqs (j : J15 cl S0 S s md mk F) : W.eqsOk (mk.map mW) := by
  refine ShW.eqsOk (d := 1) (fun w hw => ?_) (by decide)
  obtain ⟨m, hm, rfl⟩ := List.mem_map.mp hw
  refine ShW.tup fun v hv => ?_
  simp only [List.mem_cons, List.not_mem_nil, or_false] at hv
  rcases hv with rfl | rfl | rfl
  · exact ShW.int
  · exact ShW.int
  · exact ShW.str (j.ok m hm).2.shaped
end
theorem Own.upd {F F' : Fp} {S S' : Sto} {r : Addr} {o : MO} (h : Own F S F' S') (hr : S r = none) : Own F S F' (M3.put S' r o) := ⟨fun q u n e => by
  rw [put_ne (fun z => by rw [z, hr] at e; cases e)]; exact h.fr q u n e, h.nw⟩
theorem atI_range0 {n : Nat} {f : Nat → W} (h : 0 < n) : atI ((List.range n).map f) 0 = some (f 0) := atI_range (i := 0) h
theorem GridAt.put {S : Sto} {q : Addr} {g : Gr} {ra : Nat → Addr} (h : GridAt S q g ra) {p : Addr} {o : MO} (n : p ≠ q) (n2 : ∀ j, j < g.length → ra j ≠ p) : GridAt (M3.put S p o) q g ra :=
  ⟨by rw [put_ne n.symm]; exact h.top, fun j hj => by rw [put_ne (n2 j hj)]; exact h.row j hj, h.ne, h.inj⟩
theorem GridAt.own {S S' : Sto} {q : Addr} {g : Gr} {ra : Nat → Addr} {F F' : Fp} (h : GridAt S q g ra) (k : Own F S F' S') (n : ¬ F q) (n2 : ∀ j, j < g.length → ¬ F (ra j)) : GridAt S' q g ra :=
  ⟨k.at n h.top, fun j hj => k.at (n2 j hj) (h.row j hj), h.ne, h.inj⟩
def TxOk (t : Str) : Prop := ∀ c ∈ t.cps.toList, c < 1114112
theorem TxOk.sg {t : Str} (h : TxOk t) (k : Nat) : SgOk (sgAt t k) := by
  refine ⟨_, rfl, ?_⟩
  by_cases hk : k < t.cps.toList.length
  · rw [getD_at hk]; exact h _ (List.getElem_mem hk)
  · rw [List.getD_eq_getElem?_getD, List.getElem?_eq_none (by omega)]; decide
theorem TxOk.txt {r : List Str} (h : ∀ c ∈ r, SgOk c) : TxOk (txt r) := by
  intro k hk
  rw [txt_cps, List.mem_flatMap] at hk
  obtain ⟨c, hc, hk⟩ := hk
  obtain ⟨j, rfl, hj⟩ := h c hc
  simp at hk
  omega
def bG : ShR → Prop
  | .grids => True
  | .grid _ => True
  | .row _ _ => True
  | _ => False
def GrsAt (cl : Nat → Addr) (S : Sto) (md : Addr) (T : List Gr) (E : Fp) : Prop := ∃ ad, Lay S (fun x => Shs.ok ⟨T, []⟩ x ∧ bG x) (Shs.cont cl ⟨T, []⟩ ad) ad ∧ ad .grids = md ∧ ∀ q, E q ↔ ∃ x, (Shs.ok ⟨T, []⟩ x ∧ bG x) ∧ ad x = q
section
variable {cl : Nat → Addr} {S S' : Sto} {md : Addr} {T : List Gr} {E F F' : Fp} {p : Addr} {o : MO}
theorem GrsAt.sub (h : GrsAt cl S md T E) (k : Sub S S') : GrsAt cl S' md T E := by
  obtain ⟨ad, l, e, f⟩ := h
  exact ⟨ad, l.sub k, e, f⟩
theorem GrsAt.known (h : GrsAt cl S md T E) {q : Addr} (hq : E q) : S q ≠ none := by
  obtain ⟨ad, l, e, f⟩ := h
  obtain ⟨x, hx, rfl⟩ := (f q).mp hq
  rw [l.at_ x hx]; exact Option.some_ne_none _
theorem GrsAt.own (h : GrsAt cl S md T E) (k : Own F S F' S') (n : ∀ q, E q → ¬ F q) : GrsAt cl S' md T E := by
  obtain ⟨ad, l, e, f⟩ := h
  exact ⟨ad, l.own k fun x hx => n _ ((f _).mpr ⟨x, hx, rfl⟩), e, f⟩
theorem GrsAt.not (h : GrsAt cl S md T E) {q : Addr} (hq : S q = none) : ¬ E q := fun k => h.known k hq
theorem GrsAt.put (h : GrsAt cl S md T E) (hp : ¬ E p) : GrsAt cl (M3.put S p o) md T E :=
  h.own (F := fun q => q = p) (F' := fun q => q = p) (Own.put rfl) fun q hq e => hp (e ▸ hq)
theorem GrsAt.read (h : GrsAt cl S md T E) : E md ∧ ∃ gs : Nat → Addr, S md = some (.lst ((List.range T.length).map fun i => W.ref (gs i))) ∧ ∀ i g, T[i]? = some g → E (gs i) ∧ ∃ ra, GridAt S (gs i) g ra ∧ (∀ j, j < g.length → E (ra j)) ∧
    ∀ S' g', GridAt S' (gs i) g' ra → g'.length = g.length → gw g' = gw g → Own (rowsF ra g.length) S (rowsF ra g.length) S' → GrsAt cl S' md (T.set i g') E := by
  obtain ⟨ad, l, rfl, f⟩ := h
  refine ⟨(f _).mpr ⟨.grids, ⟨trivial, trivial⟩, rfl⟩, fun i => ad (.grid i), l.at_ .grids ⟨trivial, trivial⟩, fun i g hi => ?_⟩
  have hlt := (List.getElem?_eq_some_iff.mp hi).1
  have hg : Shs.g ⟨T, []⟩ i = g := Shs.g_of (H := ⟨T, []⟩) hi
  have okr : ∀ j, j < g.length → Shs.ok ⟨T, []⟩ (.row i j) := fun j hj => ⟨hlt, by rw [hg]; exact hj⟩
  refine ⟨(f _).mpr ⟨.grid i, ⟨hlt, trivial⟩, rfl⟩, fun j => ad (.row i j), ⟨?_, fun j hj => ?_, fun j hj z => ?_, fun a b ha hb z => ?_⟩, fun j hj => (f _).mpr ⟨.row i j, ⟨okr j hj, trivial⟩, rfl⟩, fun S' g' ga hl hw ow => ?_⟩
  · have := l.at_ (.grid i) ⟨hlt, trivial⟩
    simp only [Shs.cont, hg] at this
    exact this
  · have := l.at_ (.row i j) ⟨okr j hj, trivial⟩
    simp only [Shs.cont, hg] at this
    exact this
  · have := l.inj (.row i j) (.grid i) ⟨okr j hj, trivial⟩ ⟨hlt, trivial⟩ z
    cases this
  · have := l.inj (.row i a) (.row i b) ⟨okr a ha, trivial⟩ ⟨okr b hb, trivial⟩ z
    cases this; rfl
  · obtain ⟨l2, ok2⟩ := Lay.paintB (H := ⟨T, []⟩) l (fun _ => trivial) hi ga hl hw ow
    exact ⟨ad, l2, rfl, fun q => (f q).trans ⟨fun ⟨x, h1, h2⟩ => ⟨x, ⟨(ok2 x).mpr h1.1, h1.2⟩, h2⟩, fun ⟨x, h1, h2⟩ => ⟨x, ⟨(ok2 x).mp h1.1, h1.2⟩, h2⟩⟩⟩
theorem GrsAt.nil (h : S md = some (.lst [])) : GrsAt cl S md [] (fun q => q = md) := by
  refine ⟨fun _ => md, ⟨fun x hx => ?_, fun x y hx hy _ => ?_⟩, rfl, fun q => ⟨fun e => ⟨.grids, ⟨trivial, trivial⟩, e.symm⟩, fun ⟨x, _, e⟩ => e.symm⟩⟩
  · cases x with
    | grids => exact h
    | grid i => cases hx.1
    | row i j => cases hx.1.1
    | obj => exact hx.2.elim
    | sizes => exact hx.2.elim
    | deeds => exact hx.2.elim
  · cases x <;> cases y <;> first | rfl | exact hx.2.elim | exact hy.2.elim | (cases hx.1; done) | (cases hy.1; done) | (cases hx.1.1; done) | (cases hy.1.1; done)
theorem GrsAt.add (h : GrsAt cl S md T E) {w hh : Int} {c : Str} {rs : List Addr} {S3 : Sto} {g : Addr} (hs3 : Sub S S3) (hrl : rs.length = hh.toNat) (hnd : rs.Nodup) (hrn : ∀ r ∈ rs, S r = none)
    (hr : ∀ (i : Nat) (r : Addr) (a : Nat), rs[i]? = some r → (List.range hh.toNat)[i]? = some a → S3 r = some (.lst (List.replicate w.toNat (.str c)))) (hg : S3 g = none) :
    ∃ (old : List W) (E' : Fp), old.length = T.length ∧ S md = some (.lst old) ∧ GrsAt cl (M3.put (M3.put S3 g (.lst (rs.map W.ref))) md (.lst (old ++ [.ref g]))) md (T ++ [mkG w hh c]) E' ∧ Own E S E' (M3.put (M3.put S3 g (.lst (rs.map W.ref))) md (.lst (old ++ [.ref g]))) := by
  obtain ⟨ad, l, rfl, hf⟩ := h
  have eb : S (ad .grids) = some (.lst ((List.range T.length).map fun i => .ref (ad (.grid i)))) := l.at_ .grids ⟨trivial, trivial⟩
  have L3 := (l.sub hs3).sub (Sub.put (o := .lst (rs.map W.ref)) hg)
  have L5 : Lay (M3.put (M3.put S3 g (.lst (rs.map W.ref))) (ad .grids) (.lst (((List.range T.length).map fun i => .ref (ad (.grid i))) ++ [.ref g]))) _ (fun | .grids => .lst (((List.range T.length).map fun i => .ref (ad (.grid i))) ++ [.ref g]) | x => Shs.cont cl ⟨T, []⟩ ad x) ad := L3.put (x := .grids) (cont' := fun | .grids => .lst (((List.range T.length).map fun i => .ref (ad (.grid i))) ++ [.ref g]) | x => Shs.cont cl ⟨T, []⟩ ad x) ⟨trivial, trivial⟩ fun y _ hy => by cases y <;> first | rfl | exact (hy rfl).elim
  have gS : S g = none := hs3.none hg
  have rg : g ∉ rs := fun hm => by
    obtain ⟨i, hi⟩ := List.getElem?_of_mem hm
    have hlt := (List.getElem?_eq_some_iff.mp hi).1
    have := hr i g _ hi (List.getElem?_range (by omega))
    rw [hg] at this; cases this
  have gN : ∀ i, i < T.length → (T ++ [mkG w hh c]).getD i [] = T.getD i [] := fun i hi => by
    rw [List.getD_eq_getElem?_getD, List.getD_eq_getElem?_getD, List.getElem?_append_left hi]
  have gL : (T ++ [mkG w hh c]).getD T.length [] = mkG w hh c := by
    rw [List.getD_eq_getElem?_getD, List.getElem?_append_right (Nat.le_refl _), Nat.sub_self]; rfl
  have oS : ∀ x, (Shs.ok ⟨T, []⟩ x ∧ bG x) → S (ad x) ≠ none := fun x hx => by rw [l.at_ x hx]; exact Option.some_ne_none _
  let ad' : ShR → Addr := fun | .grid i => if i = T.length then g else ad (.grid i) | .row i j => if i = T.length then rs.getD j g else ad (.row i j) | x => ad x
  have hrow : ∀ j, j < hh.toNat → rs.getD j g ∈ rs ∧ rs[j]? = some (rs.getD j g) := fun j hj => by
    rw [List.getD_eq_getElem?_getD, List.getElem?_eq_getElem (by omega)]
    exact ⟨List.getElem_mem _, rfl⟩
  have adG : ∀ i, i ≠ T.length → ad' (.grid i) = ad (.grid i) := fun i hi => if_neg hi
  have adR : ∀ i j, i ≠ T.length → ad' (.row i j) = ad (.row i j) := fun i j hi => if_neg hi
  have adG' : ad' (.grid T.length) = g := if_pos rfl
  have adR' : ∀ j, ad' (.row T.length j) = rs.getD j g := fun j => if_pos rfl
  have sgd : ∀ i, Shs.g ⟨T ++ [mkG w hh c], []⟩ i = (T ++ [mkG w hh c]).getD i [] := fun i => rfl
  have len' : (T ++ [mkG w hh c]).length = T.length + 1 := by rw [List.length_append, List.length_singleton]
  have nog : ∀ {q}, S q = none → ∀ x, (Shs.ok ⟨T, []⟩ x ∧ bG x) → q ≠ ad x := fun {q} hq x hx e => oS x hx (e ▸ hq)
  have L6 : Lay (M3.put (M3.put S3 g (.lst (rs.map W.ref))) (ad .grids) (.lst (((List.range T.length).map fun i => .ref (ad (.grid i))) ++ [.ref g]))) (fun x => Shs.ok ⟨T ++ [mkG w hh c], []⟩ x ∧ bG x) (Shs.cont cl ⟨T ++ [mkG w hh c], []⟩ ad') ad' := by
    refine Lay.ext (T := S) (nw := fun x => x = .grid T.length ∨ ∃ j, x = .row T.length j) L5 oS (fun x hx => ?_) (fun x y hx hy ox oy e => ?_)
    · cases x with
      | obj => exact hx.2.elim
      | sizes => exact hx.2.elim
      | deeds => exact hx.2.elim
      | grids =>
        refine .inl ⟨⟨trivial, trivial⟩, rfl, ?_⟩
        show MO.lst ((List.range (T ++ [mkG w hh c]).length).map fun i => .ref (ad' (.grid i))) = .lst (((List.range T.length).map fun i => .ref (ad (.grid i))) ++ [.ref g])
        rw [len', List.range_succ, List.map_append, List.map_singleton, adG']
        congr 2
        refine List.map_congr_left fun i hi => ?_
        rw [adG i (by have := List.mem_range.mp hi; omega)]
      | grid i =>
        have hx' : i < T.length + 1 := len' ▸ hx.1
        by_cases e : i = T.length
        · subst e
          refine .inr ⟨.inl rfl, ?_, by rw [adG']; exact gS⟩
          rw [adG', put_ne (nog gS .grids ⟨trivial, trivial⟩), put_same]
          show some (MO.lst (rs.map W.ref)) = some (.lst ((List.range ((T ++ [mkG w hh c]).getD T.length []).length).map fun j => .ref (ad' (.row T.length j))))
          rw [gL, mkG_len, ← hrl]
          congr 2
          have := range_getD (l := rs) (d := g) (f := W.ref)
          rw [← this]
          exact List.map_congr_left fun j _ => by rw [adR']
        · refine .inl ⟨⟨(by show i < T.length; omega), trivial⟩, adG i e, ?_⟩
          show MO.lst ((List.range ((T ++ [mkG w hh c]).getD i []).length).map fun j => .ref (ad' (.row i j))) = .lst ((List.range (T.getD i []).length).map fun j => .ref (ad (.row i j)))
          rw [gN i (by omega)]
          congr 1
          exact List.map_congr_left fun j _ => by rw [adR i j e]
      | row i j =>
        have hx1 : i < T.length + 1 := len' ▸ hx.1.1
        by_cases e : i = T.length
        · subst e
          have hx2 : j < hh.toNat := by
            have := hx.1.2
            rw [sgd, gL, mkG_len] at this
            exact this
          obtain ⟨m1, m2⟩ := hrow j hx2
          have ng : rs.getD j g ≠ g := fun z => rg (z ▸ m1)
          refine .inr ⟨.inr ⟨j, rfl⟩, ?_, by rw [adR']; exact hrn _ m1⟩
          rw [adR', put_ne (nog (hrn _ m1) .grids ⟨trivial, trivial⟩), put_ne ng, hr j _ j m2 (List.getElem?_range hx2)]
          show some (MO.lst (List.replicate w.toNat (.str c))) = some (.lst (((((T ++ [mkG w hh c]).getD T.length []).getD j []).map W.str)))
          rw [gL]
          unfold mkG
          rw [List.getD_eq_getElem?_getD, List.getElem?_replicate, if_pos hx2, Option.getD_some, List.map_replicate]
        · refine .inl ⟨⟨⟨by show i < T.length; omega, ?_⟩, trivial⟩, adR i j e, ?_⟩
          · have := hx.1.2
            rw [sgd, gN i (by omega)] at this
            exact this
          · show MO.lst ((((T ++ [mkG w hh c]).getD i []).getD j []).map W.str) = .lst (((T.getD i []).getD j []).map W.str)
            rw [gN i (by omega)]
    · rcases hx with rfl | ⟨i, rfl⟩ <;> rcases hy with rfl | ⟨j, rfl⟩
      · rfl
      · rw [adG', adR'] at e
        have := (hrow j (by have := oy.1.2; rw [sgd, gL, mkG_len] at this; exact this)).1
        exact (rg (e ▸ this)).elim
      · rw [adG', adR'] at e
        have := (hrow i (by have := ox.1.2; rw [sgd, gL, mkG_len] at this; exact this)).1
        exact (rg (e ▸ this)).elim
      · rw [adR', adR'] at e
        have h1 : i < rs.length := by have := ox.1.2; rw [sgd, gL, mkG_len] at this; omega
        have h2 : j < rs.length := by have := oy.1.2; rw [sgd, gL, mkG_len] at this; omega
        rw [List.getD_eq_getElem?_getD, List.getD_eq_getElem?_getD, List.getElem?_eq_getElem h1, List.getElem?_eq_getElem h2] at e
        rw [nodup_at hnd h1 h2 e]
  have O5 : Own E S E (M3.put (M3.put S3 g (.lst (rs.map W.ref))) (ad .grids) (.lst (((List.range T.length).map fun i => .ref (ad (.grid i))) ++ [.ref g]))) := (Own.of_sub (hs3.trans (Sub.put (o := .lst (rs.map W.ref)) hg))).trans (Own.put ((hf (ad .grids)).mpr ⟨.grids, ⟨trivial, trivial⟩, rfl⟩))
  refine ⟨_, fun q => ∃ x, (Shs.ok ⟨T ++ [mkG w hh c], []⟩ x ∧ bG x) ∧ ad' x = q, by rw [List.length_map, List.length_range], eb, ⟨ad', L6, rfl, fun q => Iff.rfl⟩, ⟨O5.fr, ?_⟩⟩
  rintro q ⟨x, hx, rfl⟩
  cases x with
  | obj => exact hx.2.elim
  | sizes => exact hx.2.elim
  | deeds => exact hx.2.elim
  | grids => exact .inl ((hf _).mpr ⟨.grids, ⟨trivial, trivial⟩, rfl⟩)
  | grid i =>
    have hx' : i < T.length + 1 := len' ▸ hx.1
    by_cases e : i = T.length
    · subst e; rw [adG']; exact .inr gS
    · rw [adG i e]; exact .inl ((hf _).mpr ⟨.grid i, ⟨(by show i < T.length; omega), trivial⟩, rfl⟩)
  | row i j =>
    have hx1 : i < T.length + 1 := len' ▸ hx.1.1
    by_cases e : i = T.length
    · subst e
      rw [adR']
      exact .inr (hrn _ (hrow j (by have := hx.1.2; rw [sgd, gL, mkG_len] at this; exact this)).1)
    · rw [adR i j e]
      refine .inl ((hf _).mpr ⟨.row i j, ⟨⟨by show i < T.length; omega, ?_⟩, trivial⟩, rfl⟩)
      have := hx.1.2
      rw [sgd, gN i (by omega)] at this
      exact this
end
structure J16 (cl : Nat → Addr) (S0 S : Sto) (s md hp : Addr) (T : List Gr) (dd : List (Int × Int × Int × Int × Int)) (U : List Gr) (F E : Fp) (m : Nat) : Prop where
  sub : Sub S0 S
  sh : ShAt cl S s ⟨T, dd⟩ F
  gr : GrsAt cl S md U E
  dis : ∀ q, F q → ¬ E q
  zF : ∀ q, F q → S0 q = none
  zE : ∀ q, E q → S0 q = none
  wf : ∀ g ∈ T, GOk g
  hb : ∃ o, S hp = some o ∧ Bag m o
  nF : ¬ F hp
  nE : ¬ E hp
  zh : S0 hp = none
section
variable {cl : Nat → Addr} {S0 S S' : Sto} {s md hp : Addr} {T T' U U' : List Gr} {dd dd' : List (Int × Int × Int × Int × Int)} {F F' E E' : Fp} {m m' : Nat} {p : Addr} {o : MO}
theorem J16.less (j : J16 cl S0 S s md hp T dd U F E m) (k : Sub S S') : J16 cl S0 S' s md hp T dd U F E m :=
  ⟨j.sub.trans k, j.sh.sub k, j.gr.sub k, j.dis, j.zF, j.zE, j.wf, j.hb.imp fun o h => ⟨k _ _ h.1, h.2⟩, j.nF, j.nE, j.zh⟩
theorem J16.put (j : J16 cl S0 S s md hp T dd U F E m) (np : p ≠ hp) (nF : ¬ F p) (nE : ¬ E p) (zp : S0 p = none) : J16 cl S0 (M3.put S p o) s md hp T dd U F E m :=
  ⟨j.sub.upd zp, j.sh.put nF, j.gr.put nE, j.dis, j.zF, j.zE, j.wf, j.hb.imp fun o h => ⟨by rw [put_ne np.symm]; exact h.1, h.2⟩, j.nF, j.nE, j.zh⟩
theorem J16.sheet (j : J16 cl S0 S s md hp T dd U F E m) (ow : Own F S F' S') (sh' : ShAt cl S' s ⟨T', dd'⟩ F') (wf' : ∀ g ∈ T', GOk g) : J16 cl S0 S' s md hp T' dd' U F' E m := by
  obtain ⟨o, h1, h2⟩ := j.hb
  have b := ow.base j.sub j.zF
  refine ⟨b.1, sh', j.gr.own ow fun q hE hF => j.dis q hF hE, fun q hF hE => ?_, b.2, j.zE, wf', ⟨o, ow.at j.nF h1, h2⟩, ow.no j.nF h1, j.nE, j.zh⟩
  rcases ow.nw q hF with z | z
  · exact j.dis q z hE
  · exact j.gr.known hE z
theorem J16.grids (j : J16 cl S0 S s md hp T dd U F E m) (ow : Own E S E' S') (gr' : GrsAt cl S' md U' E') : J16 cl S0 S' s md hp T dd U' F E' m := by
  obtain ⟨o, h1, h2⟩ := j.hb
  have b := ow.base j.sub j.zE
  refine ⟨b.1, j.sh.own ow j.dis, gr', fun q hF hE => ?_, j.zF, b.2, j.wf, ⟨o, ow.at j.nE h1, h2⟩, j.nF, ow.no j.nE h1, j.zh⟩
  rcases ow.nw q hE with z | z
  · exact j.dis q hF z
  · exact j.sh.known hF z
theorem J16.new (j : J16 cl S0 S s md hp T dd U F E m) (h : S p = none) : p ≠ hp ∧ ¬ F p ∧ ¬ E p ∧ S0 p = none := by
  obtain ⟨o, h1, h2⟩ := j.hb
  exact ⟨ne_new h1 h, j.sh.not h, j.gr.not h, j.sub.none h⟩
end
theorem getD_log {ns : List Int} (hb : ∀ z ∈ ns, z.natAbs.log2 < 2000000) (k : Nat) : (ns.getD k 0).natAbs.log2 < 2000000 := by
  by_cases h : k < ns.length
  · exact hb _ (getD_mem h)
  · rw [List.getD_eq_getElem?_getD, List.getElem?_eq_none (by omega)]; decide
theorem set_wf {T : List Gr} {n : Nat} {g' : Gr} (h : ∀ g ∈ T, GOk g) (h' : GOk g') : ∀ g ∈ T.set n g', GOk g := fun g hg => by
  rcases List.mem_or_eq_of_mem_set hg with e | e
  · exact h g e
  · rw [e]; exact h'
theorem wF_sg {x y : Int} {t : Str} (h : TxOk t) : ∀ i j c, wF x y t i j = some c → SgOk c := fun i j c e => by
  unfold wF at e
  split at e
  · cases e; exact h.sg _
  · cases e
theorem fF_sg {x y w h : Int} {d : Str} (hd : SgOk d) : ∀ i j c, fF x y w h d i j = some c → SgOk c := fun i j c e => by
  unfold fF at e
  split at e
  · cases e; exact hd
  · cases e
section
variable {S S' : Sto} {n : Nat}
theorem RepT.sub (k : Sub S S') : ∀ {n : Nat} {t : Tr} {w : W}, RepT S n t w → RepT S' n t w
  | 0, _, _, h => by unfold RepT at h; exact h.elim
  | n + 1, t, w, h => by
    cases t with
    | non => unfold RepT at h ⊢; exact h
    | bl b => unfold RepT at h ⊢; exact h
    | int i => unfold RepT at h ⊢; exact h
    | str s => unfold RepT at h ⊢; exact h
    | tup l =>
      unfold RepT at h ⊢
      obtain ⟨ws, a, b, c, d⟩ := h
      exact ⟨ws, a, b, c, fun i t v h1 h2 => (d i t v h1 h2).sub k⟩
    | lst l =>
      unfold RepT at h ⊢
      obtain ⟨a, ws, e, f, b, c, d⟩ := h
      exact ⟨a, ws, e, k _ _ f, b, c, fun i t v h1 h2 => (d i t v h1 h2).sub k⟩
def Reps (S : Sto) (n : Nat) (ts : List Tr) (ws : List W) : Prop := ws.length = ts.length ∧ ∀ (i : Nat) (t : Tr) (v : W), ts[i]? = some t → ws[i]? = some v → RepT S n t v
theorem Reps.sub (k : Sub S S') {ts : List Tr} {ws : List W} (h : Reps S n ts ws) : Reps S' n ts ws := ⟨h.1, fun i t v a b => (h.2 i t v a b).sub k⟩
theorem Reps.nil : Reps S n [] [] := ⟨rfl, fun i t v h => by cases h⟩
theorem Reps.cons {t : Tr} {w : W} {ts : List Tr} {ws : List W} (h : RepT S n t w) (k : Reps S n ts ws) : Reps S n (t :: ts) (w :: ws) := by
  refine ⟨by rw [List.length_cons, List.length_cons, k.1], fun i t' v a b => ?_⟩
  cases i with
  | zero => cases a; cases b; exact h
  | succ i => exact k.2 i t' v a b
theorem Reps.app {ts us : List Tr} {ws vs : List W} (h : Reps S n ts ws) (k : Reps S n us vs) : Reps S n (ts ++ us) (ws ++ vs) := by
  refine ⟨by rw [List.length_append, List.length_append, h.1, k.1], fun i t v a b => ?_⟩
  by_cases hi : i < ts.length
  · rw [List.getElem?_append_left hi] at a
    rw [List.getElem?_append_left (by rw [h.1]; exact hi)] at b
    exact h.2 i t v a b
  · rw [List.getElem?_append_right (by omega)] at a
    rw [List.getElem?_append_right (by rw [h.1]; omega), h.1] at b
    exact k.2 _ t v a b
theorem Reps.lst {ts : List Tr} {ws : List W} {q : Addr} (h : Reps S n ts ws) (hq : S q = some (.lst ws)) (hl : ts.length ≤ 1000000) : RepT S (n + 1) (.lst ts) (.ref q) := by
  unfold RepT
  exact ⟨q, ws, rfl, hq, h.1, hl, h.2⟩
end
structure Fc where
  par : Int
  sh : Int
  x : Int
  y : Int
  w : Int
  h : Int
  sx : Int
  sy : Int
  hid : Bool
def fcL (f : Fc) : List W := [.int f.par, .int f.sh, .int f.x, .int f.y, .int f.w, .int f.h, .int f.sx, .int f.sy, .bl f.hid]
structure PS where
  kf : List Int
  kl : List Int
  f : Int → Fc
  c : Int → List Int
def upI {α : Type} (f : Int → α) (k : Int) (v : α) : Int → α := fun i => if i = k then v else f i
theorem upI_same {α : Type} {f : Int → α} {k : Int} {v : α} : upI f k v k = v := if_pos rfl
theorem upI_ne {α : Type} {f : Int → α} {k i : Int} {v : α} (h : i ≠ k) : upI f k v i = f i := if_neg h
def chn (P : PS) : Nat → Int → List Int
  | 0, _ => []
  | n + 1, j => j :: chn P n (P.f j).par
structure PWf (P : PS) (nw : Int) (d : Int → Nat) : Prop where
  kl : P.kl = 0 :: P.kf
  inc : P.kf.Pairwise (· < ·)
  pos : ∀ k ∈ P.kf, 1 ≤ k ∧ k ≤ nw
  par : ∀ k ∈ P.kf, (P.f k).par ∈ P.kl
  d0 : d 0 = 0
  dS : ∀ k ∈ P.kf, d k = d (P.f k).par + 1
  nd : ∀ k ∈ P.kl, (P.c k).Nodup
  ch : ∀ k ∈ P.kl, ∀ j, j ∈ P.c k ↔ j ∈ P.kf ∧ (P.f j).par = k
  n0 : 0 ≤ nw
def rmv (k : Int) : List Int → List Int
  | [] => []
  | a :: r => if a = k then r else a :: rmv k r
def insA (b k : Int) : List Int → List Int
  | [] => []
  | a :: r => if a = b then a :: k :: r else a :: insA b k r
theorem ix_rmv {k : Int} : ∀ {l : List Int}, k ∈ l → ∃ j : Nat, l[j]? = some k ∧ (∀ m : Nat, m < j → l[m]? ≠ some k) ∧ l.eraseIdx j = rmv k l ∧ j < l.length
  | [], h => by cases h
  | a :: r, h => by
    by_cases e : a = k
    · subst e
      refine ⟨0, rfl, fun m hm => by omega, ?_, by simp⟩
      show r = rmv a (a :: r)
      rw [rmv, if_pos rfl]
    · have h' : k ∈ r := by
        rcases List.mem_cons.mp h with h | h
        · exact (e h.symm).elim
        · exact h
      obtain ⟨j, h1, h2, h3, h4⟩ := ix_rmv h'
      refine ⟨j + 1, h1, fun m hm => ?_, ?_, by rw [List.length_cons]; omega⟩
      · cases m with
        | zero => intro z; exact e (Option.some.inj z)
        | succ m => exact h2 m (by omega)
      · rw [rmv, if_neg e]; show a :: r.eraseIdx j = _; rw [h3]
theorem ix_insA {b k : Int} : ∀ {l : List Int} {j : Nat}, l[j]? = some b → (∀ m : Nat, m < j → l[m]? ≠ some b) → l.take (j + 1) ++ [k] ++ l.drop (j + 1) = insA b k l
  | [], j, h, _ => by cases h
  | a :: r, j, h, h2 => by
    cases j with
    | zero =>
      cases h
      rw [insA, if_pos rfl]; rfl
    | succ j =>
      have e : a ≠ b := fun e => h2 0 (by omega) (by rw [e]; rfl)
      rw [insA, if_neg e, ← ix_insA (l := r) (j := j) h fun m hm => h2 (m + 1) (by omega)]
      rfl
theorem rmv_mem {k j : Int} : ∀ {l : List Int}, l.Nodup → (j ∈ rmv k l ↔ j ∈ l ∧ j ≠ k)
  | [], _ => by simp [rmv]
  | a :: r, h => by
    obtain ⟨h1, h2⟩ := List.nodup_cons.mp h
    rw [rmv]
    by_cases e : a = k
    · subst e
      rw [if_pos rfl, List.mem_cons]
      exact ⟨fun h => ⟨.inr h, fun z => h1 (z ▸ h)⟩, fun ⟨h, n⟩ => h.elim (fun z => (n z).elim) id⟩
    · rw [if_neg e, List.mem_cons, List.mem_cons, rmv_mem h2]
      constructor
      · rintro (rfl | ⟨h, n⟩)
        · exact ⟨.inl rfl, e⟩
        · exact ⟨.inr h, n⟩
      · rintro ⟨rfl | h, n⟩
        · exact .inl rfl
        · exact .inr ⟨h, n⟩
theorem rmv_sub {k j : Int} : ∀ {l : List Int}, j ∈ rmv k l → j ∈ l
  | [], h => by cases h
  | a :: r, h => by
    rw [rmv] at h
    split at h
    · exact List.mem_cons_of_mem _ h
    · rcases List.mem_cons.mp h with rfl | h
      · exact List.mem_cons_self ..
      · exact List.mem_cons_of_mem _ (rmv_sub h)
theorem rmv_nd {k : Int} : ∀ {l : List Int}, l.Nodup → (rmv k l).Nodup
  | [], _ => List.nodup_nil
  | a :: r, h => by
    obtain ⟨h1, h2⟩ := List.nodup_cons.mp h
    rw [rmv]
    split
    · exact h2
    · exact List.nodup_cons.mpr ⟨fun z => h1 (rmv_sub z), rmv_nd h2⟩
theorem rmv_len {k : Int} : ∀ {l : List Int}, (rmv k l).length ≤ l.length
  | [] => Nat.le_refl _
  | a :: r => by
    have := rmv_len (k := k) (l := r)
    rw [rmv]
    split
    · rw [List.length_cons]; omega
    · rw [List.length_cons, List.length_cons]; omega
theorem insA_mem {b k j : Int} : ∀ {l : List Int}, b ∈ l → (j ∈ insA b k l ↔ j ∈ l ∨ j = k)
  | [], h => by cases h
  | a :: r, h => by
    rw [insA]
    by_cases e : a = b
    · rw [if_pos e, List.mem_cons, List.mem_cons, List.mem_cons]
      constructor
      · rintro (h | h | h)
        · exact .inl (.inl h)
        · exact .inr h
        · exact .inl (.inr h)
      · rintro ((h | h) | h)
        · exact .inl h
        · exact .inr (.inr h)
        · exact .inr (.inl h)
    · rw [if_neg e]
      have hb : b ∈ r := by
        rcases List.mem_cons.mp h with h | h
        · exact (e h.symm).elim
        · exact h
      rw [List.mem_cons, List.mem_cons, insA_mem hb]
      constructor
      · rintro (h | h | h)
        · exact .inl (.inl h)
        · exact .inl (.inr h)
        · exact .inr h
      · rintro ((h | h) | h)
        · exact .inl h
        · exact .inr (.inl h)
        · exact .inr (.inr h)
theorem insA_nd {b k : Int} : ∀ {l : List Int}, l.Nodup → k ∉ l → (insA b k l).Nodup
  | [], _, _ => List.nodup_nil
  | a :: r, h, hk => by
    obtain ⟨h1, h2⟩ := List.nodup_cons.mp h
    have hk1 : k ≠ a := fun z => hk (by rw [z]; exact List.mem_cons_self ..)
    have hk2 : k ∉ r := fun z => hk (List.mem_cons_of_mem _ z)
    rw [insA]
    split
    · refine List.nodup_cons.mpr ⟨fun z => ?_, List.nodup_cons.mpr ⟨hk2, h2⟩⟩
      rcases List.mem_cons.mp z with z | z
      · exact hk1 z.symm
      · exact h1 z
    · refine List.nodup_cons.mpr ⟨fun z => ?_, insA_nd h2 hk2⟩
      by_cases hb : b ∈ r
      · rcases (insA_mem hb).mp z with z | z
        · exact h1 z
        · exact hk1 z.symm
      · have : ∀ {l : List Int}, b ∉ l → insA b k l = l := fun {l} => by
          intro hl
          induction l with
          | nil => rfl
          | cons c l ih => rw [insA, if_neg (fun z => hl (by rw [z]; exact List.mem_cons_self ..)), ih (fun z => hl (List.mem_cons_of_mem _ z))]
        rw [this hb] at z
        exact h1 z
def opOpen (P : PS) (n : Int) (v : Fc) : PS := ⟨P.kf ++ [n], P.kl ++ [n], upI P.f n v, upI (upI P.c n []) v.par (P.c v.par ++ [n])⟩
def opF (P : PS) (k : Int) (v : Fc) : PS := { P with f := upI P.f k v }
def opC (P : PS) (k : Int) (l : List Int) : PS := { P with c := upI P.c k l }
def opInto (P : PS) (k p : Int) : PS := opF (opC (opC P (P.f k).par (rmv k (P.c (P.f k).par))) p ((opC P (P.f k).par (rmv k (P.c (P.f k).par))).c p ++ [k])) k { P.f k with par := p }
def opGo (P : PS) (d : Int → Nat) (k : Int) : PS := ⟨P.kf.filter fun j => decide (k ∉ chn P (d j) j), P.kl.filter fun j => decide (k ∉ chn P (d j) j), P.f, upI P.c (P.f k).par (rmv k (P.c (P.f k).par))⟩
inductive PRow where
  | open (par sh x y w h : Int)
  | move (k x y : Int)
  | resize (k w h : Int)
  | scroll (k x y : Int)
  | turn (k sh : Int)
  | lift (k : Int)
  | sink (k : Int)
  | over (k b : Int)
  | into (k p : Int)
  | hide (k : Int)
  | show (k : Int)
  | go (k : Int)
  | told (k : Int)
  | inside (k : Int)
  | next
  | all
def PRow.bad (P : PS) (d : Int → Nat) (many : Int) : PRow → Option Nat
  | .open p s _ _ w h => if p ∉ P.kl then some 4 else if s < 0 ∨ many ≤ s then some 2 else if w < 1 ∨ h < 1 then some 1 else none
  | .resize k w h => if k ∉ P.kf then some 4 else if w < 1 ∨ h < 1 then some 1 else none
  | .turn k s => if k ∉ P.kf then some 4 else if s < 0 ∨ many ≤ s then some 2 else none
  | .over k b => if k ∉ P.kf then some 4 else if b ∉ P.kf then some 4 else if (P.f b).par ≠ (P.f k).par ∨ b = k then some 5 else none
  | .into k p => if k ∉ P.kf then some 4 else if p ∉ P.kl then some 4 else if k ∈ chn P (d p) p then some 6 else none
  | .inside k => if k ∉ P.kl then some 4 else none
  | .next => none
  | .all => none
  | .move k _ _ => if k ∉ P.kf then some 4 else none
  | .scroll k _ _ => if k ∉ P.kf then some 4 else none
  | .lift k => if k ∉ P.kf then some 4 else none
  | .sink k => if k ∉ P.kf then some 4 else none
  | .hide k => if k ∉ P.kf then some 4 else none
  | .show k => if k ∉ P.kf then some 4 else none
  | .go k => if k ∉ P.kf then some 4 else none
  | .told k => if k ∉ P.kf then some 4 else none
def PRow.op (P : PS) (d : Int → Nat) (nw : Int) : PRow → PS
  | .open p s x y w h => opOpen P (nw + 1) ⟨p, s, x, y, w, h, 0, 0, false⟩
  | .move k x y => opF P k { P.f k with x := x, y := y }
  | .resize k w h => opF P k { P.f k with w := w, h := h }
  | .scroll k x y => opF P k { P.f k with sx := x, sy := y }
  | .turn k s => opF P k { P.f k with sh := s }
  | .lift k => opC P (P.f k).par (rmv k (P.c (P.f k).par) ++ [k])
  | .sink k => opC P (P.f k).par (k :: rmv k (P.c (P.f k).par))
  | .over k b => opC P (P.f k).par (insA b k (rmv k (P.c (P.f k).par)))
  | .into k p => opInto P k p
  | .hide k => opF P k { P.f k with hid := true }
  | .show k => opF P k { P.f k with hid := false }
  | .go k => opGo P d k
  | _ => P
inductive PR where
  | obj
  | facts
  | lists
  | fact (k : Int)
  | list (k : Int)
def PS.ok (P : PS) : PR → Prop
  | .obj => True
  | .facts => True
  | .lists => True
  | .fact k => k ∈ P.kf
  | .list k => k ∈ P.kl
def dkF (ad : PR → Addr) (ks : List Int) : MO := .dk false (ks.map fun k => ((Sum.inl k : Key), W.ref (ad (.fact k))))
def dkL (ad : PR → Addr) (ks : List Int) : MO := .dk false (ks.map fun k => ((Sum.inl k : Key), W.ref (ad (.list k))))
def PS.cont (hd : Addr → Addr → MO) (P : PS) (ad : PR → Addr) : PR → MO
  | .obj => hd (ad .facts) (ad .lists)
  | .facts => dkF ad P.kf
  | .lists => dkL ad P.kl
  | .fact k => .lst (fcL (P.f k))
  | .list k => .lst ((P.c k).map W.int)
def PS.fp (P : PS) (ad : PR → Addr) : Fp := fun q => ∃ x, P.ok x ∧ ad x = q
abbrev PLay (S : Sto) (hd : Addr → Addr → MO) (P : PS) (ad : PR → Addr) : Prop := Lay S P.ok (P.cont hd ad) ad
theorem valD_int {ys : List Int} {f : Int → W} {y : Int} : valD (ys.map fun y => ((Sum.inl y : Key), f y)) (.inl y) = if y ∈ ys then some (f y) else none := by
  unfold valD
  induction ys with
  | nil => rfl
  | cons z ys ih =>
    rw [List.map_cons, List.find?_cons]
    by_cases h : z = y
    · subst h; simp
    · have h' : ¬ ((Sum.inl z : Key) = Sum.inl y) := fun e => h (Sum.inl.inj e)
      have h2 : ¬ y = z := fun e => h e.symm
      simp only [h', decide_false, ih, List.mem_cons, h2, false_or]
theorem idx_dk {a : Addr} {ks : List Int} {f : Int → W} {k : Int} {S : Sto} (h : S a = some (.dk false (ks.map fun k => ((Sum.inl k : Key), f k)))) : idxW (.ref a) (.int k) S = if k ∈ ks then some (f k) else none := by
  unfold idxW
  dsimp only
  rw [h]
  exact valD_int
theorem inn_dk {a : Addr} {ks : List Int} {f : Int → W} {k : Int} {S : Sto} {Q : Bool → Prop} (h : S a = some (.dk false (ks.map fun k => ((Sum.inl k : Key), f k)))) : inW (.int k) (.ref a) Q S = Q (decide (k ∈ ks)) := by
  unfold inW
  dsimp only
  rw [h]
  show Q (valD (ks.map fun k => ((Sum.inl k : Key), f k)) (.inl k)).isSome = _
  rw [valD_int]
  by_cases c : k ∈ ks <;> simp [c]
theorem putD_int {ys : List Int} {f : Int → W} {y : Int} {w : W} (h : y ∉ ys) : putD (ys.map fun y => ((Sum.inl y : Key), f y)) (.inl y) w = ys.map (fun y => ((Sum.inl y : Key), f y)) ++ [((Sum.inl y : Key), w)] := by
  unfold putD
  rw [if_neg]
  simp
  exact h
theorem dropD_int {ys : List Int} {f : Int → W} {y : Int} : dropD (ys.map fun y => ((Sum.inl y : Key), f y)) (.inl y) = (ys.filter fun z => decide (z ≠ y)).map fun y => ((Sum.inl y : Key), f y) := by
  unfold dropD
  induction ys with
  | nil => rfl
  | cons z ys ih =>
    rw [List.map_cons, List.filter_cons, List.filter_cons, ih]
    by_cases h : z = y
    · subst h; simp
    · have h' : ¬ ((Sum.inl z : Key) = Sum.inl y) := fun e => h (Sum.inl.inj e)
      simp [h, h']
section
variable {S S' : Sto} {hd hd' : Addr → Addr → MO} {P : PS} {ad : PR → Addr} {E E' : Fp} {k : Int}
theorem PLay.obj (h : PLay S hd P ad) : S (ad .obj) = some (hd (ad .facts) (ad .lists)) := h.at_ .obj trivial
theorem PLay.facts (h : PLay S hd P ad) : S (ad .facts) = some (dkF ad P.kf) := h.at_ .facts trivial
theorem PLay.lists (h : PLay S hd P ad) : S (ad .lists) = some (dkL ad P.kl) := h.at_ .lists trivial
theorem PLay.fact (h : PLay S hd P ad) (hk : k ∈ P.kf) : S (ad (.fact k)) = some (.lst (fcL (P.f k))) := h.at_ (.fact k) hk
theorem PLay.list (h : PLay S hd P ad) (hk : k ∈ P.kl) : S (ad (.list k)) = some (.lst ((P.c k).map W.int)) := h.at_ (.list k) hk
theorem PLay.fpO {P : PS} {ad : PR → Addr} : P.fp ad (ad .obj) := ⟨.obj, trivial, rfl⟩
theorem PLay.known (h : PLay S hd P ad) {q : Addr} (hq : P.fp ad q) : S q ≠ none := by
  obtain ⟨x, hx, rfl⟩ := hq
  rw [h.at_ x hx]; exact Option.some_ne_none _
theorem PLay.not (h : PLay S hd P ad) {q : Addr} (hq : S q = none) : ¬ P.fp ad q := fun k => h.known k hq
theorem PLay.ownP (h : PLay S hd P ad) (k : Own E S E' S') (n : ∀ q, P.fp ad q → ¬ E q) : PLay S' hd P ad := h.own k fun x hx => n _ ⟨x, hx, rfl⟩
theorem PLay.putP (h : PLay S hd P ad) {p : Addr} {o : MO} (hp : ¬ P.fp ad p) : PLay (M3.put S p o) hd P ad := h.ownP (E := fun q => q = p) (E' := fun q => q = p) (Own.put rfl) fun q hq e => hp (e ▸ hq)
theorem PLay.idxF (h : PLay S hd P ad) (hk : k ∈ P.kf) : idxW (.ref (ad .facts)) (.int k) S = some (.ref (ad (.fact k))) := by rw [idx_dk h.facts, if_pos hk]
theorem PLay.idxL (h : PLay S hd P ad) (hk : k ∈ P.kl) : idxW (.ref (ad .lists)) (.int k) S = some (.ref (ad (.list k))) := by rw [idx_dk h.lists, if_pos hk]
theorem PLay.subP (h : PLay S hd P ad) (k : Sub S S') : PLay S' hd P ad := Lay.sub h k
theorem PLay.setH (h : PLay S hd P ad) : PLay (M3.put S (ad .obj) (hd' (ad .facts) (ad .lists))) hd' P ad :=
  Lay.put h (x := .obj) (cont' := P.cont hd' ad) trivial fun y _ hy => by cases y <;> first | rfl | exact (hy rfl).elim
theorem PLay.setF (h : PLay S hd P ad) (hk : k ∈ P.kf) {v : Fc} : PLay (M3.put S (ad (.fact k)) (.lst (fcL v))) hd (opF P k v) ad := by
  have := Lay.put h (x := .fact k) (cont' := (opF P k v).cont hd ad) hk fun y _ hy => by
    cases y with
    | fact j => show MO.lst (fcL (upI P.f k v j)) = _; rw [upI_ne (fun e => hy (by rw [e]))]; rfl
    | _ => rfl
  have e : (opF P k v).cont hd ad (.fact k) = .lst (fcL v) := by show MO.lst (fcL (upI P.f k v k)) = _; rw [upI_same]
  rw [e] at this
  exact this
theorem PLay.setC (h : PLay S hd P ad) (hk : k ∈ P.kl) {l : List Int} : PLay (M3.put S (ad (.list k)) (.lst (l.map W.int))) hd (opC P k l) ad := by
  have := Lay.put h (x := .list k) (cont' := (opC P k l).cont hd ad) hk fun y _ hy => by
    cases y with
    | list j => show MO.lst ((upI P.c k l j).map W.int) = _; rw [upI_ne (fun e => hy (by rw [e]))]; rfl
    | _ => rfl
  have e : (opC P k l).cont hd ad (.list k) = .lst (l.map W.int) := by show MO.lst ((upI P.c k l k).map W.int) = _; rw [upI_same]
  rw [e] at this
  exact this
def adF (ad : PR → Addr) (n : Int) (r : Addr) : PR → Addr
  | .fact k => if k = n then r else ad (.fact k)
  | x => ad x
def adL (ad : PR → Addr) (n : Int) (r : Addr) : PR → Addr
  | .list k => if k = n then r else ad (.list k)
  | x => ad x
theorem PLay.addF (h : PLay S hd P ad) {n : Int} {r : Addr} {v : Fc} (hn : n ∉ P.kf) (hr : S r = none) :
    PLay (M3.put (M3.put S r (.lst (fcL v))) (ad .facts) (.dk false ((P.kf.map fun k => ((Sum.inl k : Key), W.ref (ad (.fact k)))) ++ [((Sum.inl n : Key), .ref r)]))) hd { P with kf := P.kf ++ [n], f := upI P.f n v } (adF ad n r) := by
  have nr : ∀ x, P.ok x → r ≠ ad x := fun x hx e => by have := h.at_ x hx; rw [← e, hr] at this; cases this
  have h1 := h.sub (Sub.put (o := .lst (fcL v)) hr)
  have h2 := h1.put (x := .facts) (cont' := fun | .facts => .dk false ((P.kf.map fun k => ((Sum.inl k : Key), W.ref (ad (.fact k)))) ++ [((Sum.inl n : Key), .ref r)]) | x => P.cont hd ad x) trivial fun y _ hy => by cases y <;> first | rfl | exact (hy rfl).elim
  refine Lay.ext (T := S) (nw := fun x => x = .fact n) h2 (fun x hx => by rw [h.at_ x hx]; exact Option.some_ne_none _) (fun x hx => ?_) (fun x y hx hy _ _ _ => by rw [hx, hy])
  cases x with
  | obj => exact .inl ⟨trivial, rfl, rfl⟩
  | lists => exact .inl ⟨trivial, rfl, rfl⟩
  | list k => exact .inl ⟨hx, rfl, rfl⟩
  | facts =>
    refine .inl ⟨trivial, rfl, ?_⟩
    show MO.dk false ((P.kf ++ [n]).map fun k => ((Sum.inl k : Key), W.ref (if k = n then r else ad (.fact k)))) = _
    rw [List.map_append, List.map_singleton, if_pos rfl]
    congr 2
    refine List.map_congr_left fun k hk => ?_
    rw [if_neg (fun e : k = n => hn (e ▸ hk))]
  | fact k =>
    by_cases e : k = n
    · subst e
      refine .inr ⟨rfl, ?_, ?_⟩
      · show M3.put (M3.put S r (.lst (fcL v))) (ad .facts) _ (if k = k then r else ad (.fact k)) = some (.lst (fcL (upI P.f k v k)))
        rw [if_pos rfl, put_ne (nr .facts trivial), put_same, upI_same]
      · show S (if k = k then r else ad (.fact k)) = none
        rw [if_pos rfl]; exact hr
    · refine .inl ⟨?_, if_neg e, ?_⟩
      · rcases List.mem_append.mp hx with z | z
        · exact z
        · exact (e (List.mem_singleton.mp z)).elim
      · show MO.lst (fcL (upI P.f n v k)) = .lst (fcL (P.f k))
        rw [upI_ne e]
theorem PLay.addL (h : PLay S hd P ad) {n : Int} {r : Addr} (hn : n ∉ P.kl) (hr : S r = none) :
    PLay (M3.put (M3.put S r (.lst [])) (ad .lists) (.dk false ((P.kl.map fun k => ((Sum.inl k : Key), W.ref (ad (.list k)))) ++ [((Sum.inl n : Key), .ref r)]))) hd { P with kl := P.kl ++ [n], c := upI P.c n [] } (adL ad n r) := by
  have nr : ∀ x, P.ok x → r ≠ ad x := fun x hx e => by have := h.at_ x hx; rw [← e, hr] at this; cases this
  have h1 := h.sub (Sub.put (o := .lst []) hr)
  have h2 := h1.put (x := .lists) (cont' := fun | .lists => .dk false ((P.kl.map fun k => ((Sum.inl k : Key), W.ref (ad (.list k)))) ++ [((Sum.inl n : Key), .ref r)]) | x => P.cont hd ad x) trivial fun y _ hy => by cases y <;> first | rfl | exact (hy rfl).elim
  refine Lay.ext (T := S) (nw := fun x => x = .list n) h2 (fun x hx => by rw [h.at_ x hx]; exact Option.some_ne_none _) (fun x hx => ?_) (fun x y hx hy _ _ _ => by rw [hx, hy])
  cases x with
  | obj => exact .inl ⟨trivial, rfl, rfl⟩
  | facts => exact .inl ⟨trivial, rfl, rfl⟩
  | fact k => exact .inl ⟨hx, rfl, rfl⟩
  | lists =>
    refine .inl ⟨trivial, rfl, ?_⟩
    show MO.dk false ((P.kl ++ [n]).map fun k => ((Sum.inl k : Key), W.ref (if k = n then r else ad (.list k)))) = _
    rw [List.map_append, List.map_singleton, if_pos rfl]
    congr 2
    refine List.map_congr_left fun k hk => ?_
    rw [if_neg (fun e : k = n => hn (e ▸ hk))]
  | list k =>
    by_cases e : k = n
    · subst e
      refine .inr ⟨rfl, ?_, ?_⟩
      · show M3.put (M3.put S r (.lst [])) (ad .lists) _ (if k = k then r else ad (.list k)) = some (.lst ((upI P.c k [] k).map W.int))
        rw [if_pos rfl, put_ne (nr .lists trivial), put_same, upI_same]; rfl
      · show S (if k = k then r else ad (.list k)) = none
        rw [if_pos rfl]; exact hr
    · refine .inl ⟨?_, if_neg e, ?_⟩
      · rcases List.mem_append.mp hx with z | z
        · exact z
        · exact (e (List.mem_singleton.mp z)).elim
      · show MO.lst ((upI P.c n [] k).map W.int) = .lst ((P.c k).map W.int)
        rw [upI_ne e]
theorem PLay.delF (h : PLay S hd P ad) {n : Int} : PLay (M3.put S (ad .facts) (dkF ad (P.kf.filter fun z => decide (z ≠ n)))) hd { P with kf := P.kf.filter fun z => decide (z ≠ n) } ad := by
  have h2 := h.put (x := .facts) (cont' := fun | .facts => dkF ad (P.kf.filter fun z => decide (z ≠ n)) | x => P.cont hd ad x) trivial fun y _ hy => by cases y <;> first | rfl | exact (hy rfl).elim
  have mono : ∀ x, PS.ok { P with kf := P.kf.filter fun z => decide (z ≠ n) } x → P.ok x := fun x hx => by
    cases x with
    | fact k => exact (List.mem_filter.mp hx).1
    | _ => exact hx
  refine ⟨fun x hx => ?_, fun x y hx hy => h2.inj x y (mono x hx) (mono y hy)⟩
  have := h2.at_ x (mono x hx)
  cases x <;> exact this
theorem PLay.delL (h : PLay S hd P ad) {n : Int} : PLay (M3.put S (ad .lists) (dkL ad (P.kl.filter fun z => decide (z ≠ n)))) hd { P with kl := P.kl.filter fun z => decide (z ≠ n) } ad := by
  have h2 := h.put (x := .lists) (cont' := fun | .lists => dkL ad (P.kl.filter fun z => decide (z ≠ n)) | x => P.cont hd ad x) trivial fun y _ hy => by cases y <;> first | rfl | exact (hy rfl).elim
  have mono : ∀ x, PS.ok { P with kl := P.kl.filter fun z => decide (z ≠ n) } x → P.ok x := fun x hx => by
    cases x with
    | list k => exact (List.mem_filter.mp hx).1
    | _ => exact hx
  refine ⟨fun x hx => ?_, fun x y hx hy => h2.inj x y (mono x hx) (mono y hy)⟩
  have := h2.at_ x (mono x hx)
  cases x <;> exact this
theorem PS.fp_adF {n : Int} {r q : Addr} {f : Int → Fc} {c : Int → List Int} (hq : PS.fp ⟨P.kf ++ [n], P.kl, f, c⟩ (adF ad n r) q) : P.fp ad q ∨ q = r := by
  obtain ⟨x, hx, rfl⟩ := hq
  cases x with
  | obj => exact .inl ⟨.obj, trivial, rfl⟩
  | facts => exact .inl ⟨.facts, trivial, rfl⟩
  | lists => exact .inl ⟨.lists, trivial, rfl⟩
  | list k => exact .inl ⟨.list k, hx, rfl⟩
  | fact k =>
    by_cases e : k = n
    · exact .inr (if_pos e)
    · refine .inl ⟨.fact k, ?_, (if_neg e).symm⟩
      rcases List.mem_append.mp hx with z | z
      · exact z
      · exact (e (List.mem_singleton.mp z)).elim
theorem PS.fp_adL {n : Int} {r q : Addr} {f : Int → Fc} {c : Int → List Int} (hq : PS.fp ⟨P.kf, P.kl ++ [n], f, c⟩ (adL ad n r) q) : P.fp ad q ∨ q = r := by
  obtain ⟨x, hx, rfl⟩ := hq
  cases x with
  | obj => exact .inl ⟨.obj, trivial, rfl⟩
  | facts => exact .inl ⟨.facts, trivial, rfl⟩
  | lists => exact .inl ⟨.lists, trivial, rfl⟩
  | fact k => exact .inl ⟨.fact k, hx, rfl⟩
  | list k =>
    by_cases e : k = n
    · exact .inr (if_pos e)
    · refine .inl ⟨.list k, ?_, (if_neg e).symm⟩
      rcases List.mem_append.mp hx with z | z
      · exact z
      · exact (e (List.mem_singleton.mp z)).elim
theorem PLay.setwF (h : PLay S hd P ad) {n : Int} {r : Addr} {v : Fc} {Q : Sto → Prop} (hn : n ∉ P.kf) (hr : S r = none) (hl : P.kf.length ≤ 1000)
    (hq : ∀ S3, PLay S3 hd ⟨P.kf ++ [n], P.kl, upI P.f n v, P.c⟩ (adF ad n r) → Own (P.fp ad) S (PS.fp ⟨P.kf ++ [n], P.kl, upI P.f n v, P.c⟩ (adF ad n r)) S3 → Q S3) : setW (.ref (ad .facts)) (.int n) (.ref r) (M3.put S r (.lst (fcL v))) Q := by
  have e := (Sub.put (o := .lst (fcL v)) hr) _ _ h.facts
  unfold setW
  dsimp only
  rw [e]
  show (P.kf.map fun k => ((Sum.inl k : Key), W.ref (ad (.fact k)))).length < sizeLine ∧ _
  refine ⟨by rw [List.length_map, sizeLine_val]; omega, ?_⟩
  rw [putD_int hn]
  refine hq _ (h.addF hn hr) ⟨fun q o nq e2 => ?_, fun q hq => ?_⟩
  · rw [put_ne (fun z => nq ⟨.facts, trivial, z.symm⟩)]
    exact Sub.put hr _ _ e2
  · rcases PS.fp_adF hq with z | rfl
    · exact .inl z
    · exact .inr hr
theorem PLay.setwL (h : PLay S hd P ad) {n : Int} {r : Addr} {Q : Sto → Prop} (hn : n ∉ P.kl) (hr : S r = none) (hl : P.kl.length ≤ 1000)
    (hq : ∀ S3, PLay S3 hd ⟨P.kf, P.kl ++ [n], P.f, upI P.c n []⟩ (adL ad n r) → Own (P.fp ad) S (PS.fp ⟨P.kf, P.kl ++ [n], P.f, upI P.c n []⟩ (adL ad n r)) S3 → Q S3) : setW (.ref (ad .lists)) (.int n) (.ref r) (M3.put S r (.lst [])) Q := by
  have e := (Sub.put (o := .lst []) hr) _ _ h.lists
  unfold setW
  dsimp only
  rw [e]
  show (P.kl.map fun k => ((Sum.inl k : Key), W.ref (ad (.list k)))).length < sizeLine ∧ _
  refine ⟨by rw [List.length_map, sizeLine_val]; omega, ?_⟩
  rw [putD_int hn]
  refine hq _ (h.addL hn hr) ⟨fun q o nq e2 => ?_, fun q hq => ?_⟩
  · rw [put_ne (fun z => nq ⟨.lists, trivial, z.symm⟩)]
    exact Sub.put hr _ _ e2
  · rcases PS.fp_adL hq with z | rfl
    · exact .inl z
    · exact .inr hr
end
def pnH (cl : Nat → Addr) (s : Addr) (nw : Int) : Addr → Addr → MO := fun a b => .ins (cl 11) [("kept_sheets", .ref s), ("facts", .ref a), ("lists", .ref b), ("newest", .int nw)]
section
variable {S : Sto} {p D : Addr} {a b c d : W} {Q : W → Prop}
theorem fld_kept (e : S p = some (.ins D [("kept_sheets", a), ("facts", b), ("lists", c), ("newest", d)])) : fldW (.ref p) D "kept_sheets" S Q = Q a := fld_of e (by
  have h : (("kept_sheets" : Str) == "kept_sheets") = true := by decide +kernel
  simp only [List.lookup, h])
theorem fld_facts (e : S p = some (.ins D [("kept_sheets", a), ("facts", b), ("lists", c), ("newest", d)])) : fldW (.ref p) D "facts" S Q = Q b := fld_of e (by
  have h : (("facts" : Str) == "kept_sheets") = false := by decide +kernel
  have h2 : (("facts" : Str) == "facts") = true := by decide +kernel
  simp only [List.lookup, h, h2])
theorem fld_lists (e : S p = some (.ins D [("kept_sheets", a), ("facts", b), ("lists", c), ("newest", d)])) : fldW (.ref p) D "lists" S Q = Q c := fld_of e (by
  have h : (("lists" : Str) == "kept_sheets") = false := by decide +kernel
  have h2 : (("lists" : Str) == "facts") = false := by decide +kernel
  have h3 : (("lists" : Str) == "lists") = true := by decide +kernel
  simp only [List.lookup, h, h2, h3])
theorem fld_newest (e : S p = some (.ins D [("kept_sheets", a), ("facts", b), ("lists", c), ("newest", d)])) : fldW (.ref p) D "newest" S Q = Q d := fld_of e (by
  have h : (("newest" : Str) == "kept_sheets") = false := by decide +kernel
  have h2 : (("newest" : Str) == "facts") = false := by decide +kernel
  have h3 : (("newest" : Str) == "lists") = false := by decide +kernel
  have h4 : (("newest" : Str) == "newest") = true := by decide +kernel
  simp only [List.lookup, h, h2, h3, h4])
def pnNot (m : Str) : Bool := (m == "kept_sheets") || (m == "facts") || (m == "lists") || (m == "newest")
theorem ins_pn (e : S p = some (.ins D [("kept_sheets", a), ("facts", b), ("lists", c), ("newest", d)])) {m : Str} (hm : pnNot m = false) : isIns (.ref p) D m S := by
  unfold pnNot at hm
  simp only [Bool.or_eq_false_iff] at hm
  unfold isIns
  dsimp only
  rw [e]
  refine ⟨rfl, ?_⟩
  simp only [List.lookup, hm.1.1.1, hm.1.1.2, hm.1.2, hm.2]
theorem putF_n {w a b c d : W} : putFW "newest" w [(("kept_sheets" : Str), a), (("facts" : Str), b), (("lists" : Str), c), (("newest" : Str), d)] = [(("kept_sheets" : Str), a), (("facts" : Str), b), (("lists" : Str), c), (("newest" : Str), w)] := by
  unfold putFW
  rw [if_neg (by decide +kernel)]
  unfold putFW
  rw [if_neg (by decide +kernel)]
  unfold putFW
  rw [if_neg (by decide +kernel)]
  unfold putFW
  rw [if_pos (by decide +kernel)]
end
theorem PLay.ins {cl : Nat → Addr} {S : Sto} {s : Addr} {nw : Int} {P : PS} {ad : PR → Addr} (h : PLay S (pnH cl s nw) P ad) {m : Str} (hm : pnNot m = false) : isIns (.ref (ad .obj)) (cl 11) m S := ins_pn h.obj hm
structure PCtx (cl : Nat → Addr) (S : Sto) (ad : PR → Addr) (s : Addr) (nw : Int) (P : PS) (d : Int → Nat) (many : Nat) : Prop where
  lay : PLay S (pnH cl s nw) P ad
  wf : PWf P nw d
  len : P.kf.length ≤ 62
  sh : ∃ H F, ShAt cl S s H F ∧ H.gr.length = many
  mn : many ≤ 1000
def POut (cl : Nat → Addr) (S : Sto) (ad : PR → Addr) (s : Addr) (nw : Int) (P : PS) (d : Int → Nat) (many : Nat) (Q : WQ) (X : XQ) (row : PRow) : Prop :=
  match row.bad P d many with
  | some n => X (cl n) S
  | none => match row with
    | .told k => Q (.tup (fcL (P.f k))) S
    | .inside k => ∀ q, S q = none → Q (.ref q) (put S q (.lst ((P.c k).map W.int)))
    | .all => ∀ q, S q = none → Q (.ref q) (put S q (.lst (P.kf.map W.int)))
    | .next => Q (.int (nw + 1)) S
    | .open p s2 x y w h => ∀ ad' S', PLay S' (pnH cl s (nw + 1)) (PRow.op P d nw (.open p s2 x y w h)) ad' → ad' .obj = ad .obj → Own (P.fp ad) S ((PRow.op P d nw (.open p s2 x y w h)).fp ad') S' → Q (.int (nw + 1)) S'
    | row => ∀ ad' S', PLay S' (pnH cl s nw) (PRow.op P d nw row) ad' → ad' .obj = ad .obj → Own (P.fp ad) S ((PRow.op P d nw row).fp ad') S' → Q .non S'
def N_Panes_sheets_kept : List Str := ["self"]
def ir_Panes_sheets_kept : ISs := .cons (.ret (.fld 11 (.var 0) "kept_sheets")) .nil
def sp_Panes_sheets_kept (cl : Nat → Addr) : MSp := fun ws S Q _ => ∃ ad s nw P, ws = [.ref (ad .obj)] ∧ PLay S (pnH cl s nw) P ad ∧ Q (.ref s) S
theorem pf_Panes_sheets_kept (G : Gs) (ws : List W) (S : Sto) (Q : WQ) (X : XQ) (h : sp_Panes_sheets_kept G.cl ws S Q X) : ws.length = 1 ∧ wpF G 1 ir_Panes_sheets_kept ws S Q X := by
  obtain ⟨ad, s, nw, P, rfl, l, hq⟩ := h
  refine ⟨rfl, ?_⟩
  unfold wpF ir_Panes_sheets_kept
  walk_at "wp"
  simp only [fld_kept l.obj]
  exact ⟨_, Sub.refl _, hq⟩
def N_Panes_fact_of : List Str := ["self", "pane"]
def ir_Panes_fact_of : ISs := .cons (.iff (.inn false (.var 1) (.fld 11 (.var 0) "facts")) (.cons (.rse 4) .nil) (.nil)) (.cons (.ret (.idx (.fld 11 (.var 0) "facts") (.var 1))) .nil)
def sp_Panes_fact_of (cl : Nat → Addr) : MSp := fun ws S Q X => ∃ ad s nw P k, ws = [.ref (ad .obj), .int k] ∧ PLay S (pnH cl s nw) P ad ∧ (k ∈ P.kf → Q (.ref (ad (.fact k))) S) ∧ (k ∉ P.kf → X (cl 4) S)
theorem pf_Panes_fact_of (G : Gs) (hx4 : 4 ∈ G.ex) (ws : List W) (S : Sto) (Q : WQ) (X : XQ) (h : sp_Panes_fact_of G.cl ws S Q X) : ws.length = 2 ∧ wpF G 2 ir_Panes_fact_of ws S Q X := by
  obtain ⟨ad, s, nw, P, k, rfl, l, hq, hn⟩ := h
  refine ⟨rfl, ?_⟩
  unfold wpF ir_Panes_fact_of
  walk_at "wp"
  simp only [fld_facts l.obj, inn_dk l.facts, ws_rse]
  by_cases c : k ∈ P.kf
  · simp only [c, decide_true]
    walk_at "wp"
    simp only [l.facts, dkF, valD_int, if_pos c]
    exact ⟨_, Sub.refl _, hq c⟩
  · simp only [c, decide_false]
    walk_at "wp"
    exact ⟨hx4, _, Sub.refl _, hn c⟩
def N_Panes_list_of : List Str := ["self", "parent"]
def ir_Panes_list_of : ISs := .cons (.iff (.inn false (.var 1) (.fld 11 (.var 0) "lists")) (.cons (.rse 4) .nil) (.nil)) (.cons (.ret (.idx (.fld 11 (.var 0) "lists") (.var 1))) .nil)
def sp_Panes_list_of (cl : Nat → Addr) : MSp := fun ws S Q X => ∃ ad s nw P k, ws = [.ref (ad .obj), .int k] ∧ PLay S (pnH cl s nw) P ad ∧ (k ∈ P.kl → Q (.ref (ad (.list k))) S) ∧ (k ∉ P.kl → X (cl 4) S)
theorem pf_Panes_list_of (G : Gs) (hx4 : 4 ∈ G.ex) (ws : List W) (S : Sto) (Q : WQ) (X : XQ) (h : sp_Panes_list_of G.cl ws S Q X) : ws.length = 2 ∧ wpF G 2 ir_Panes_list_of ws S Q X := by
  obtain ⟨ad, s, nw, P, k, rfl, l, hq, hn⟩ := h
  refine ⟨rfl, ?_⟩
  unfold wpF ir_Panes_list_of
  walk_at "wp"
  simp only [fld_lists l.obj, inn_dk l.lists, ws_rse]
  by_cases c : k ∈ P.kl
  · simp only [c, decide_true]
    walk_at "wp"
    simp only [l.lists, dkL, valD_int, if_pos c]
    exact ⟨_, Sub.refl _, hq c⟩
  · simp only [c, decide_false]
    walk_at "wp"
    exact ⟨hx4, _, Sub.refl _, hn c⟩
theorem POut.bad {cl : Nat → Addr} {S : Sto} {ad : PR → Addr} {s : Addr} {nw : Int} {P : PS} {d : Int → Nat} {many : Nat} {Q : WQ} {X : XQ} {row : PRow} {n : Nat} (h : POut cl S ad s nw P d many Q X row) (e : row.bad P d many = some n) : X (cl n) S := by
  unfold POut at h; rw [e] at h; exact h
def PRow.res (cl : Nat → Addr) (S : Sto) (ad : PR → Addr) (s : Addr) (nw : Int) (P : PS) (d : Int → Nat) (Q : WQ) (row : PRow) : Prop := match row with
    | .told k => Q (.tup (fcL (P.f k))) S
    | .inside k => ∀ q, S q = none → Q (.ref q) (put S q (.lst ((P.c k).map W.int)))
    | .all => ∀ q, S q = none → Q (.ref q) (put S q (.lst (P.kf.map W.int)))
    | .next => Q (.int (nw + 1)) S
    | .open p s2 x y w h => ∀ ad' S', PLay S' (pnH cl s (nw + 1)) (PRow.op P d nw (.open p s2 x y w h)) ad' → ad' .obj = ad .obj → Own (P.fp ad) S ((PRow.op P d nw (.open p s2 x y w h)).fp ad') S' → Q (.int (nw + 1)) S'
    | row => ∀ ad' S', PLay S' (pnH cl s nw) (PRow.op P d nw row) ad' → ad' .obj = ad .obj → Own (P.fp ad) S ((PRow.op P d nw row).fp ad') S' → Q .non S'
theorem POut.good {cl : Nat → Addr} {S : Sto} {ad : PR → Addr} {s : Addr} {nw : Int} {P : PS} {d : Int → Nat} {many : Nat} {Q : WQ} {X : XQ} {row : PRow} (h : POut cl S ad s nw P d many Q X row) (e : row.bad P d many = none) : row.res cl S ad s nw P d Q := by
  unfold POut at h; rw [e] at h
  cases row <;> exact h
theorem POut.of {cl : Nat → Addr} {S : Sto} {ad : PR → Addr} {s : Addr} {nw : Int} {P : PS} {d : Int → Nat} {many : Nat} {Q : WQ} {X : XQ} {row : PRow} (h : row.bad P d many = none → row.res cl S ad s nw P d Q) (h2 : ∀ n, row.bad P d many = some n → X (cl n) S) : POut cl S ad s nw P d many Q X row := by
  unfold POut
  cases e : row.bad P d many with
  | some n => exact h2 n e
  | none =>
    have := h e
    cases row <;> exact this
def N_Panes_told : List Str := ["self", "pane"]
def ir_Panes_told : ISs := .cons (.ret (.tupl (.of (.meth 429 11 "fact_of" (.var 0) (.cons (.var 1) .nil))))) .nil
def sp_Panes_told (cl : Nat → Addr) : MSp := fun ws S Q X => ∃ ad s nw P d many k, ws = [.ref (ad .obj), .int k] ∧ PCtx cl S ad s nw P d many ∧ POut cl S ad s nw P d many Q X (.told k)
theorem pf_Panes_told (G : Gs) (hG429 : G 429 = sp_Panes_fact_of G.cl) (ws : List W) (S : Sto) (Q : WQ) (X : XQ) (h : sp_Panes_told G.cl ws S Q X) : ws.length = 2 ∧ wpF G 2 ir_Panes_told ws S Q X := by
  obtain ⟨ad, s, nw, P, d, many, k, rfl, c, ho⟩ := h
  refine ⟨rfl, ?_⟩
  have l := c.lay
  unfold wpF ir_Panes_told
  walk_at "wp"
  simp only [hG429]
  refine ⟨l.ins (by decide +kernel), ad, s, nw, P, k, rfl, l, fun hk => ?_, fun hk => ?_⟩
  · unfold POut PRow.bad at ho
    simp only [not_true, if_neg (fun h : k ∉ P.kf => h hk)] at ho
    dsimp only
    rw [l.fact hk]
    exact ⟨_, Sub.refl _, ho⟩
  · exact ⟨_, Sub.refl _, ho.bad (if_pos hk)⟩
def N_Panes_inside : List Str := ["self", "parent"]
def ir_Panes_inside : ISs := .cons (.ret (.mat (.lst (.of (.meth 430 11 "list_of" (.var 0) (.cons (.var 1) .nil)))))) .nil
def sp_Panes_inside (cl : Nat → Addr) : MSp := fun ws S Q X => ∃ ad s nw P d many k, ws = [.ref (ad .obj), .int k] ∧ PCtx cl S ad s nw P d many ∧ POut cl S ad s nw P d many Q X (.inside k)
theorem pf_Panes_inside (G : Gs) (hG430 : G 430 = sp_Panes_list_of G.cl) (ws : List W) (S : Sto) (Q : WQ) (X : XQ) (h : sp_Panes_inside G.cl ws S Q X) : ws.length = 2 ∧ wpF G 2 ir_Panes_inside ws S Q X := by
  obtain ⟨ad, s, nw, P, d, many, k, rfl, c, ho⟩ := h
  refine ⟨rfl, ?_⟩
  have l := c.lay
  unfold wpF ir_Panes_inside
  walk_at "wp"
  simp only [hG430]
  refine ⟨l.ins (by decide +kernel), ad, s, nw, P, k, rfl, l, fun hk => ?_, fun hk => ?_⟩
  · unfold POut PRow.bad at ho
    simp only [not_true, if_neg (fun h : k ∉ P.kl => h hk)] at ho
    dsimp only
    rw [l.list hk]
    exact fun q hq => ⟨_, Sub.refl _, ho q hq⟩
  · exact ⟨_, Sub.refl _, ho.bad (if_pos hk)⟩
def N_Panes_all_panes : List Str := ["self"]
def ir_Panes_all_panes : ISs := .cons (.ret (.mat (.srtd (.fld 11 (.var 0) "facts")))) .nil
def sp_Panes_all_panes (cl : Nat → Addr) : MSp := fun ws S Q X => ∃ ad s nw P d many, ws = [.ref (ad .obj)] ∧ PCtx cl S ad s nw P d many ∧ POut cl S ad s nw P d many Q X .all
theorem sorted_unique {l m : List Int} (h : m.Perm l) (hm : m.Pairwise (· ≤ ·)) (hl : l.Pairwise (· < ·)) : m = l :=
  h.eq_of_pairwise (fun a b _ _ h1 h2 => Int.le_antisymm h1 h2) hm (hl.imp fun h => Int.le_of_lt h)
theorem srt_keys {S : Sto} {a : Addr} {ks : List Int} {f : Int → W} {Q : List W → Prop} (h : S a = some (.dk false (ks.map fun k => ((Sum.inl k : Key), f k)))) (inc : ks.Pairwise (· < ·)) (hl : ks.length < 64) (hq : Q (ks.map W.int)) : srtdW (.ref a) S Q := by
  unfold srtdW
  dsimp only
  rw [h]
  refine ⟨ks, by rw [List.map_map]; rfl, hl, fun ys h1 h2 => ?_⟩
  rw [sorted_unique h1 h2 inc]
  exact hq
theorem wt_srtd2 {G : Gs} {d : IE} {σ : Envr} {S : Sto} {Q : List W → Sto → Prop} {X : XQ} : wpT G (.srtd d) σ S Q X = wpE G d σ S (fun x S1 => srtdW x S1 fun ws => Q ws S1) X := rfl
theorem pf_Panes_all_panes (G : Gs) (ws : List W) (S : Sto) (Q : WQ) (X : XQ) (h : sp_Panes_all_panes G.cl ws S Q X) : ws.length = 1 ∧ wpF G 1 ir_Panes_all_panes ws S Q X := by
  obtain ⟨ad, s, nw, P, d, many, rfl, c, ho⟩ := h
  refine ⟨rfl, ?_⟩
  have l := c.lay
  unfold wpF ir_Panes_all_panes
  walk_at "wp"
  simp only [wt_srtd2]
  walk_at "wp"
  simp only [fld_facts l.obj]
  exact srt_keys l.facts c.wf.inc (by have := c.len; omega) fun q hq => ⟨_, Sub.refl _, ho q hq⟩
def N_Panes_following : List Str := ["self"]
def ir_Panes_following : ISs := .cons (.ret (.bin .add (.fld 11 (.var 0) "newest") (.cst (.int 1)))) .nil
def sp_Panes_following (cl : Nat → Addr) : MSp := fun ws S Q X => ∃ ad s nw P d many, ws = [.ref (ad .obj)] ∧ PCtx cl S ad s nw P d many ∧ POut cl S ad s nw P d many Q X .next
theorem pf_Panes_following (G : Gs) (ws : List W) (S : Sto) (Q : WQ) (X : XQ) (h : sp_Panes_following G.cl ws S Q X) : ws.length = 1 ∧ wpF G 1 ir_Panes_following ws S Q X := by
  obtain ⟨ad, s, nw, P, d, many, rfl, c, ho⟩ := h
  refine ⟨rfl, ?_⟩
  have l := c.lay
  unfold wpF ir_Panes_following
  walk_at "wp"
  simp only [fld_newest l.obj]
  walk_at "wp"
  exact ⟨_, Sub.refl _, ho⟩
section
variable {cl : Nat → Addr} {S S' : Sto} {ad : PR → Addr} {s : Addr} {nw : Int} {P : PS} {k : Int}
theorem own_fact (hk : k ∈ P.kf) {o : MO} : Own (P.fp ad) S (P.fp ad) (put S (ad (.fact k)) o) := Own.put ⟨.fact k, hk, rfl⟩
theorem own_list (hk : k ∈ P.kl) {o : MO} : Own (P.fp ad) S (P.fp ad) (put S (ad (.list k)) o) := Own.put ⟨.list k, hk, rfl⟩
end
theorem sls_fact {S : Sto} {a q : Addr} {f : Fc} {u v : W} {i j : Nat} {Q : Sto → Prop} {xs : List W} (ha : S a = some (.lst (fcL f))) (hq : S q = none) (hij : j = i + 2) (hj : j ≤ 9) (e : (fcL f).take i ++ [u, v] ++ (fcL f).drop j = xs) (h : Q (put (put S q (.lst [u, v])) a (.lst xs))) : slsW (.ref a) (.int i) (.int j) (.ref q) (put S q (.lst [u, v])) Q := by
  have n : q ≠ a := ne_new ha hq
  unfold slsW
  dsimp only
  refine ⟨n, ?_⟩
  rw [put_ne n.symm, ha, put_same]
  dsimp only
  have e9 : (fcL f).length = 9 := rfl
  refine ⟨by omega, by omega, by rw [e9]; omega, by rw [e9, sizeLine_val]; show 9 + 2 ≤ _; decide, ?_⟩
  rw [Int.toNat_natCast, Int.toNat_natCast, e]
  exact h
def N_Panes_move : List Str := ["self", "pane", "x", "y", "fact"]
def ir_Panes_move : ISs := .cons (.set 4 (.meth 429 11 "fact_of" (.var 0) (.cons (.var 1) .nil))) (.cons (.asg (.slc (.var 4) (.cst (.int 2)) (.cst (.int 4))) (.mat (.dsp (.cons (.var 2) (.cons (.var 3) .nil))))) .nil)
def sp_Panes_move (cl : Nat → Addr) : MSp := fun ws S Q X => ∃ ad s nw P d many k x y, ws = [.ref (ad .obj), .int k, .int x, .int y] ∧ PCtx cl S ad s nw P d many ∧ POut cl S ad s nw P d many Q X (.move k x y)
theorem pf_Panes_move (G : Gs) (hG429 : G 429 = sp_Panes_fact_of G.cl) (ws : List W) (S : Sto) (Q : WQ) (X : XQ) (h : sp_Panes_move G.cl ws S Q X) : ws.length = 4 ∧ wpF G 5 ir_Panes_move ws S Q X := by
  obtain ⟨ad, s, nw, P, d, many, k, x, y, rfl, c, ho⟩ := h
  refine ⟨rfl, ?_⟩
  have l := c.lay
  unfold wpF ir_Panes_move
  walk_at "wp"
  simp only [hG429]
  refine ⟨l.ins (by decide +kernel), ad, s, nw, P, k, rfl, l, fun hk => ?_, fun hk => ⟨_, Sub.refl _, ho.bad (if_pos hk)⟩⟩
  have hr := ho.good (if_neg (fun h : k ∉ P.kf => h hk))
  refine ⟨by rw [sizeLine_val]; decide, fun q hq => ?_⟩
  exact sls_fact (i := 2) (j := 4) (l.fact hk) hq rfl (by decide) (xs := fcL { P.f k with x := x, y := y }) rfl ⟨_, Sub.refl _, hr ad _ ((l.subP (Sub.put hq)).setF hk) rfl ((Own.of_sub (Sub.put hq)).trans (own_fact hk))⟩
def N_Panes_resize : List Str := ["self", "pane", "w", "h", "fact"]
def ir_Panes_resize : ISs := .cons (.set 4 (.meth 429 11 "fact_of" (.var 0) (.cons (.var 1) .nil))) (.cons (.iff (.or (.cmp .lt (.var 2) (.cst (.int 1))) (.cmp .lt (.var 3) (.cst (.int 1)))) (.cons (.rse 1) .nil) (.nil)) (.cons (.asg (.slc (.var 4) (.cst (.int 4)) (.cst (.int 6))) (.mat (.dsp (.cons (.var 2) (.cons (.var 3) .nil))))) .nil))
def sp_Panes_resize (cl : Nat → Addr) : MSp := fun ws S Q X => ∃ ad s nw P d many k x y, ws = [.ref (ad .obj), .int k, .int x, .int y] ∧ PCtx cl S ad s nw P d many ∧ POut cl S ad s nw P d many Q X (.resize k x y)
theorem pf_Panes_resize (G : Gs) (hG429 : G 429 = sp_Panes_fact_of G.cl) (hx1 : 1 ∈ G.ex) (ws : List W) (S : Sto) (Q : WQ) (X : XQ) (h : sp_Panes_resize G.cl ws S Q X) : ws.length = 4 ∧ wpF G 5 ir_Panes_resize ws S Q X := by
  obtain ⟨ad, s, nw, P, d, many, k, x, y, rfl, c, ho⟩ := h
  refine ⟨rfl, ?_⟩
  have l := c.lay
  unfold wpF ir_Panes_resize
  walk_at "wp"
  simp only [hG429, ws_rse]
  refine ⟨l.ins (by decide +kernel), ad, s, nw, P, k, rfl, l, fun hk => ?_, fun hk => ⟨_, Sub.refl _, ho.bad (if_pos hk)⟩⟩
  have hk' : ¬ k ∉ P.kf := fun h => h hk
  dsimp only
  have bad : (x < 1 ∨ y < 1) → 1 ∈ G.ex ∧ ∃ S2, Sub S2 S ∧ X (G.cl 1) S2 := fun c => ⟨hx1, _, Sub.refl _, ho.bad ((if_neg hk').trans (if_pos c))⟩
  by_cases c1 : x < 1
  · rw [if_pos c1]; exact bad (.inl c1)
  rw [if_neg c1]
  by_cases c2 : y < 1
  · rw [if_pos c2]; exact bad (.inr c2)
  rw [if_neg c2]
  have hr := ho.good ((if_neg hk').trans (if_neg (fun h => h.elim c1 c2)))
  walk_at "wp"
  refine ⟨by rw [sizeLine_val]; decide, fun q hq => ?_⟩
  exact sls_fact (i := 4) (j := 6) (l.fact hk) hq rfl (by decide) (xs := fcL { P.f k with w := x, h := y }) rfl ⟨_, Sub.refl _, hr ad _ ((l.subP (Sub.put hq)).setF hk) rfl ((Own.of_sub (Sub.put hq)).trans (own_fact hk))⟩
def N_Panes_scroll : List Str := ["self", "pane", "sx", "sy", "fact"]
def ir_Panes_scroll : ISs := .cons (.set 4 (.meth 429 11 "fact_of" (.var 0) (.cons (.var 1) .nil))) (.cons (.asg (.slc (.var 4) (.cst (.int 6)) (.cst (.int 8))) (.mat (.dsp (.cons (.var 2) (.cons (.var 3) .nil))))) .nil)
def sp_Panes_scroll (cl : Nat → Addr) : MSp := fun ws S Q X => ∃ ad s nw P d many k x y, ws = [.ref (ad .obj), .int k, .int x, .int y] ∧ PCtx cl S ad s nw P d many ∧ POut cl S ad s nw P d many Q X (.scroll k x y)
theorem pf_Panes_scroll (G : Gs) (hG429 : G 429 = sp_Panes_fact_of G.cl) (ws : List W) (S : Sto) (Q : WQ) (X : XQ) (h : sp_Panes_scroll G.cl ws S Q X) : ws.length = 4 ∧ wpF G 5 ir_Panes_scroll ws S Q X := by
  obtain ⟨ad, s, nw, P, d, many, k, x, y, rfl, c, ho⟩ := h
  refine ⟨rfl, ?_⟩
  have l := c.lay
  unfold wpF ir_Panes_scroll
  walk_at "wp"
  simp only [hG429]
  refine ⟨l.ins (by decide +kernel), ad, s, nw, P, k, rfl, l, fun hk => ?_, fun hk => ⟨_, Sub.refl _, ho.bad (if_pos hk)⟩⟩
  have hr := ho.good (if_neg (fun h : k ∉ P.kf => h hk))
  refine ⟨by rw [sizeLine_val]; decide, fun q hq => ?_⟩
  exact sls_fact (i := 6) (j := 8) (l.fact hk) hq rfl (by decide) (xs := fcL { P.f k with sx := x, sy := y }) rfl ⟨_, Sub.refl _, hr ad _ ((l.subP (Sub.put hq)).setF hk) rfl ((Own.of_sub (Sub.put hq)).trans (own_fact hk))⟩
def N_Panes_turn : List Str := ["self", "pane", "sheet", "fact"]
def ir_Panes_turn : ISs := .cons (.set 3 (.meth 429 11 "fact_of" (.var 0) (.cons (.var 1) .nil))) (.cons (.exp (.meth 413 10 "size_of" (.fld 11 (.var 0) "kept_sheets") (.cons (.var 2) .nil))) (.cons (.asg (.sub (.var 3) (.cst (.int 1))) (.var 2)) .nil))
def sp_Panes_turn (cl : Nat → Addr) : MSp := fun ws S Q X => ∃ ad s nw P d many k x, ws = [.ref (ad .obj), .int k, .int x] ∧ PCtx cl S ad s nw P d many ∧ POut cl S ad s nw P d many Q X (.turn k x)
theorem pf_Panes_turn (G : Gs) (hG429 : G 429 = sp_Panes_fact_of G.cl) (hG413 : G 413 = sp_Sheets_size_of G.cl) (ws : List W) (S : Sto) (Q : WQ) (X : XQ) (h : sp_Panes_turn G.cl ws S Q X) : ws.length = 3 ∧ wpF G 4 ir_Panes_turn ws S Q X := by
  obtain ⟨ad, s, nw, P, d, many, k, x, rfl, c, ho⟩ := h
  refine ⟨rfl, ?_⟩
  have l := c.lay
  obtain ⟨H, F, sh, hm⟩ := c.sh
  have mn := c.mn
  unfold wpF ir_Panes_turn
  walk_at "wp"
  simp only [hG429, hG413]
  refine ⟨l.ins (by decide +kernel), ad, s, nw, P, k, rfl, l, fun hk => ?_, fun hk => ⟨_, Sub.refl _, ho.bad (if_pos hk)⟩⟩
  have hk' : ¬ k ∉ P.kf := fun h => h hk
  simp only [fld_kept l.obj]
  refine ⟨sh.ins ⟨by decide +kernel, by decide +kernel, by decide +kernel⟩, s, H, F, x, rfl, sh, by omega, fun k2 g e hk2 => ?_, fun hn => ⟨_, Sub.refl _, ho.bad ((if_neg hk').trans (if_pos (by rw [hm] at hn; exact hn)))⟩⟩
  have hlt := (List.getElem?_eq_some_iff.mp hk2).1
  have hr := ho.good ((if_neg hk').trans (if_neg (by omega)))
  walk_at "wp"
  rw [l.fact hk]
  exact ⟨_, Sub.refl _, hr ad _ (l.setF hk (v := { P.f k with sh := x })) rfl (own_fact hk)⟩
def N_Panes_hide : List Str := ["self", "pane", "fact"]
def ir_Panes_hide : ISs := .cons (.set 2 (.meth 429 11 "fact_of" (.var 0) (.cons (.var 1) .nil))) (.cons (.asg (.sub (.var 2) (.cst (.int 8))) (.cst (.bl true))) .nil)
def sp_Panes_hide (cl : Nat → Addr) : MSp := fun ws S Q X => ∃ ad s nw P d many k, ws = [.ref (ad .obj), .int k] ∧ PCtx cl S ad s nw P d many ∧ POut cl S ad s nw P d many Q X (.hide k)
theorem pf_Panes_hide (G : Gs) (hG429 : G 429 = sp_Panes_fact_of G.cl) (ws : List W) (S : Sto) (Q : WQ) (X : XQ) (h : sp_Panes_hide G.cl ws S Q X) : ws.length = 2 ∧ wpF G 3 ir_Panes_hide ws S Q X := by
  obtain ⟨ad, s, nw, P, d, many, k, rfl, c, ho⟩ := h
  refine ⟨rfl, ?_⟩
  have l := c.lay
  unfold wpF ir_Panes_hide
  walk_at "wp"
  simp only [hG429]
  refine ⟨l.ins (by decide +kernel), ad, s, nw, P, k, rfl, l, fun hk => ?_, fun hk => ⟨_, Sub.refl _, ho.bad (if_pos hk)⟩⟩
  have hr := ho.good (if_neg (fun h : k ∉ P.kf => h hk))
  unfold setW
  dsimp only
  rw [l.fact hk]
  exact ⟨_, Sub.refl _, hr ad _ (l.setF hk (v := { P.f k with hid := true })) rfl (own_fact hk)⟩
def N_Panes_show : List Str := ["self", "pane", "fact"]
def ir_Panes_show : ISs := .cons (.set 2 (.meth 429 11 "fact_of" (.var 0) (.cons (.var 1) .nil))) (.cons (.asg (.sub (.var 2) (.cst (.int 8))) (.cst (.bl false))) .nil)
def sp_Panes_show (cl : Nat → Addr) : MSp := fun ws S Q X => ∃ ad s nw P d many k, ws = [.ref (ad .obj), .int k] ∧ PCtx cl S ad s nw P d many ∧ POut cl S ad s nw P d many Q X (.show k)
theorem pf_Panes_show (G : Gs) (hG429 : G 429 = sp_Panes_fact_of G.cl) (ws : List W) (S : Sto) (Q : WQ) (X : XQ) (h : sp_Panes_show G.cl ws S Q X) : ws.length = 2 ∧ wpF G 3 ir_Panes_show ws S Q X := by
  obtain ⟨ad, s, nw, P, d, many, k, rfl, c, ho⟩ := h
  refine ⟨rfl, ?_⟩
  have l := c.lay
  unfold wpF ir_Panes_show
  walk_at "wp"
  simp only [hG429]
  refine ⟨l.ins (by decide +kernel), ad, s, nw, P, k, rfl, l, fun hk => ?_, fun hk => ⟨_, Sub.refl _, ho.bad (if_pos hk)⟩⟩
  have hr := ho.good (if_neg (fun h : k ∉ P.kf => h hk))
  unfold setW
  dsimp only
  rw [l.fact hk]
  exact ⟨_, Sub.refl _, hr ad _ (l.setF hk (v := { P.f k with hid := false })) rfl (own_fact hk)⟩
theorem rem_list {S : Sto} {a : Addr} {l : List Int} {k : Int} {Q : Sto → Prop} (ha : S a = some (.lst (l.map W.int))) (hk : k ∈ l) (h : Q (put S a (.lst ((rmv k l).map W.int)))) : remW (.ref a) (.int k) S Q := by
  unfold remW lstW
  dsimp only
  rw [ha]
  dsimp only
  rw [intsOf_ints]
  obtain ⟨j, h1, h2, h3, _⟩ := ix_rmv hk
  exact ⟨j, h1, h2, by dsimp only; rw [h3]; exact h⟩
def N_Panes_lift : List Str := ["self", "pane", "brothers"]
def ir_Panes_lift : ISs := .cons (.set 2 (.meth 430 11 "list_of" (.var 0) (.cons (.idx (.meth 429 11 "fact_of" (.var 0) (.cons (.var 1) .nil)) (.cst (.int 0))) .nil))) (.cons (.exp (.rem (.var 2) (.var 1))) (.cons (.exp (.app (.var 2) (.var 1))) .nil))
def sp_Panes_lift (cl : Nat → Addr) : MSp := fun ws S Q X => ∃ ad s nw P d many k, ws = [.ref (ad .obj), .int k] ∧ PCtx cl S ad s nw P d many ∧ POut cl S ad s nw P d many Q X (.lift k)
theorem nd_sub_len : ∀ {l m : List Int}, l.Nodup → (∀ x ∈ l, x ∈ m) → l.length ≤ m.length
  | [], _, _, _ => Nat.zero_le _
  | a :: l, m, h, hs => by
    obtain ⟨h1, h2⟩ := List.nodup_cons.mp h
    have ha := hs a (List.mem_cons_self ..)
    have := nd_sub_len (l := l) (m := m.erase a) h2 fun x hx => (List.mem_erase_of_ne (fun e : x = a => h1 (e ▸ hx))).mpr (hs x (List.mem_cons_of_mem _ hx))
    rw [List.length_erase_of_mem ha] at this
    have h3 : 0 < m.length := List.length_pos_of_mem ha
    rw [List.length_cons]; omega
theorem nd_lenI {P : PS} {nw : Int} {d : Int → Nat} (w : PWf P nw d) {k : Int} (hk : k ∈ P.kl) : (P.c k).length ≤ P.kf.length := by
  have h1 := w.nd k hk
  have h2 : ∀ j ∈ P.c k, j ∈ P.kf := fun j hj => ((w.ch k hk j).mp hj).1
  exact nd_sub_len h1 h2
theorem pf_Panes_lift (G : Gs) (hG429 : G 429 = sp_Panes_fact_of G.cl) (hG430 : G 430 = sp_Panes_list_of G.cl) (ws : List W) (S : Sto) (Q : WQ) (X : XQ) (h : sp_Panes_lift G.cl ws S Q X) : ws.length = 2 ∧ wpF G 3 ir_Panes_lift ws S Q X := by
  obtain ⟨ad, s, nw, P, d, many, k, rfl, c, ho⟩ := h
  refine ⟨rfl, ?_⟩
  have l := c.lay
  unfold wpF ir_Panes_lift
  walk_at "wp"
  simp only [hG429, hG430]
  refine ⟨l.ins (by decide +kernel), l.ins (by decide +kernel), ad, s, nw, P, k, rfl, l, fun hk => ?_, fun hk => ⟨_, Sub.refl _, ho.bad (if_pos hk)⟩⟩
  have hr := ho.good (if_neg (fun h : k ∉ P.kf => h hk))
  have hp := c.wf.par k hk
  have hkc : k ∈ P.c (P.f k).par := (c.wf.ch _ hp k).mpr ⟨hk, rfl⟩
  have hlen := nd_lenI c.wf hp
  have cl62 := c.len
  dsimp only
  simp only [idx_ref, l.fact hk]
  show sp_Panes_list_of G.cl [.ref (ad .obj), .int (P.f k).par] S _ _
  refine ⟨ad, s, nw, P, _, rfl, l, fun _ => ?_, fun hn => (hn hp).elim⟩
  walk_at "wp"
  rw [l.list hp]
  refine ⟨trivial, rem_list (l.list hp) hkc ?_⟩
  walk_at "wp"
  have := rmv_len (k := k) (l := P.c (P.f k).par)
  refine ⟨by rw [List.length_map, sizeLine_val]; omega, ?_⟩
  have l2 := l.setC hp (l := rmv k (P.c (P.f k).par) ++ [k])
  rw [List.map_append] at l2
  exact ⟨_, Sub.refl _, hr ad _ l2 rfl (own_list hp)⟩
def N_Panes_sink : List Str := ["self", "pane", "brothers"]
def ir_Panes_sink : ISs := .cons (.set 2 (.meth 430 11 "list_of" (.var 0) (.cons (.idx (.meth 429 11 "fact_of" (.var 0) (.cons (.var 1) .nil)) (.cst (.int 0))) .nil))) (.cons (.exp (.rem (.var 2) (.var 1))) (.cons (.exp (.ins (.var 2) (.cst (.int 0)) (.var 1))) .nil))
def sp_Panes_sink (cl : Nat → Addr) : MSp := fun ws S Q X => ∃ ad s nw P d many k, ws = [.ref (ad .obj), .int k] ∧ PCtx cl S ad s nw P d many ∧ POut cl S ad s nw P d many Q X (.sink k)
theorem pf_Panes_sink (G : Gs) (hG429 : G 429 = sp_Panes_fact_of G.cl) (hG430 : G 430 = sp_Panes_list_of G.cl) (ws : List W) (S : Sto) (Q : WQ) (X : XQ) (h : sp_Panes_sink G.cl ws S Q X) : ws.length = 2 ∧ wpF G 3 ir_Panes_sink ws S Q X := by
  obtain ⟨ad, s, nw, P, d, many, k, rfl, c, ho⟩ := h
  refine ⟨rfl, ?_⟩
  have l := c.lay
  unfold wpF ir_Panes_sink
  walk_at "wp"
  simp only [hG429, hG430]
  refine ⟨l.ins (by decide +kernel), l.ins (by decide +kernel), ad, s, nw, P, k, rfl, l, fun hk => ?_, fun hk => ⟨_, Sub.refl _, ho.bad (if_pos hk)⟩⟩
  have hr := ho.good (if_neg (fun h : k ∉ P.kf => h hk))
  have hp := c.wf.par k hk
  have hkc : k ∈ P.c (P.f k).par := (c.wf.ch _ hp k).mpr ⟨hk, rfl⟩
  have hlen := nd_lenI c.wf hp
  have cl62 := c.len
  dsimp only
  simp only [idx_ref, l.fact hk]
  show sp_Panes_list_of G.cl [.ref (ad .obj), .int (P.f k).par] S _ _
  refine ⟨ad, s, nw, P, _, rfl, l, fun _ => ?_, fun hn => (hn hp).elim⟩
  walk_at "wp"
  rw [l.list hp]
  refine ⟨trivial, rem_list (l.list hp) hkc ?_⟩
  walk_at "wp"
  unfold lstW
  dsimp only
  rw [put_same]
  dsimp only
  have := rmv_len (k := k) (l := P.c (P.f k).par)
  refine ⟨by rw [List.length_map, sizeLine_val]; omega, by decide, by decide, ?_⟩
  rw [put_put]
  exact ⟨_, Sub.refl _, hr ad _ (l.setC hp (l := k :: rmv k (P.c (P.f k).par))) rfl (own_list hp)⟩
def N_Panes_put_over : List Str := ["self", "pane", "brother", "parent", "brothers"]
def ir_Panes_put_over : ISs := .cons (.set 3 (.idx (.meth 429 11 "fact_of" (.var 0) (.cons (.var 1) .nil)) (.cst (.int 0)))) (.cons (.iff (.or (.cmp .ne (.idx (.meth 429 11 "fact_of" (.var 0) (.cons (.var 2) .nil)) (.cst (.int 0))) (.var 3)) (.cmp .eq (.var 2) (.var 1))) (.cons (.rse 5) .nil) (.nil)) (.cons (.set 4 (.meth 430 11 "list_of" (.var 0) (.cons (.var 3) .nil))) (.cons (.exp (.rem (.var 4) (.var 1))) (.cons (.exp (.ins (.var 4) (.bin .add (.ixo (.var 4) (.var 2)) (.cst (.int 1))) (.var 1))) .nil))))
def sp_Panes_put_over (cl : Nat → Addr) : MSp := fun ws S Q X => ∃ ad s nw P d many k b, ws = [.ref (ad .obj), .int k, .int b] ∧ PCtx cl S ad s nw P d many ∧ POut cl S ad s nw P d many Q X (.over k b)
theorem ixo_list {S : Sto} {a : Addr} {l : List Int} {b : Int} {Q : W → Prop} (ha : S a = some (.lst (l.map W.int))) (hb : b ∈ l) (h : ∀ j : Nat, l[j]? = some b → (∀ m : Nat, m < j → l[m]? ≠ some b) → Q (.int j)) : ixoW (.ref a) (.int b) S Q := by
  unfold ixoW lstW
  dsimp only
  rw [ha]
  dsimp only
  rw [intsOf_ints]
  obtain ⟨j, h1, h2, _, _⟩ := ix_rmv hb
  exact ⟨j, h1, h2, h j h1 h2⟩
theorem pf_Panes_put_over (G : Gs) (hG429 : G 429 = sp_Panes_fact_of G.cl) (hG430 : G 430 = sp_Panes_list_of G.cl) (hx5 : 5 ∈ G.ex) (ws : List W) (S : Sto) (Q : WQ) (X : XQ) (h : sp_Panes_put_over G.cl ws S Q X) : ws.length = 3 ∧ wpF G 5 ir_Panes_put_over ws S Q X := by
  obtain ⟨ad, s, nw, P, d, many, k, b, rfl, c, ho⟩ := h
  refine ⟨rfl, ?_⟩
  have l := c.lay
  unfold wpF ir_Panes_put_over
  walk_at "wp"
  simp only [hG429, hG430, ws_rse]
  refine ⟨l.ins (by decide +kernel), ad, s, nw, P, k, rfl, l, fun hk => ?_, fun hk => ⟨_, Sub.refl _, ho.bad (if_pos hk)⟩⟩
  have hk' : ¬ k ∉ P.kf := fun h => h hk
  dsimp only
  simp only [idx_ref, l.fact hk]
  show isIns _ _ _ _ ∧ sp_Panes_fact_of G.cl [.ref (ad .obj), .int b] S _ _
  refine ⟨l.ins (by decide +kernel), ad, s, nw, P, b, rfl, l, fun hb => ?_, fun hb => ⟨_, Sub.refl _, ho.bad ((if_neg hk').trans (if_pos hb))⟩⟩
  have hb' : ¬ b ∉ P.kf := fun h => h hb
  dsimp only
  simp only [idx_ref, l.fact hb]
  show cmpW .ne (.int (P.f b).par) (.int (P.f k).par) _
  walk_at "wp"
  have bad : ((P.f b).par ≠ (P.f k).par ∨ b = k) → 5 ∈ G.ex ∧ ∃ S2, Sub S2 S ∧ X (G.cl 5) S2 := fun c => ⟨hx5, _, Sub.refl _, ho.bad ((if_neg hk').trans ((if_neg hb').trans (if_pos c)))⟩
  by_cases c1 : (P.f b).par = (P.f k).par
  rotate_left
  · rw [if_pos (by simpa using c1)]; exact bad (.inl c1)
  rw [if_neg (by simpa using c1)]
  by_cases c2 : b = k
  · rw [if_pos c2]; exact bad (.inr c2)
  rw [if_neg c2]
  have hr := ho.good ((if_neg hk').trans ((if_neg hb').trans (if_neg (fun h => h.elim (fun z => z c1) c2))))
  have hp := c.wf.par k hk
  have hkc : k ∈ P.c (P.f k).par := (c.wf.ch _ hp k).mpr ⟨hk, rfl⟩
  have hbc : b ∈ rmv k (P.c (P.f k).par) := (rmv_mem (c.wf.nd _ hp)).mpr ⟨(c.wf.ch _ hp b).mpr ⟨hb, c1⟩, c2⟩
  have hlen := nd_lenI c.wf hp
  have cl62 := c.len
  walk_at "wp"
  refine ⟨l.ins (by decide +kernel), ad, s, nw, P, _, rfl, l, fun _ => ?_, fun hn => (hn hp).elim⟩
  walk_at "wp"
  rw [l.list hp]
  refine ⟨trivial, rem_list (l.list hp) hkc ?_⟩
  walk_at "wp"
  refine ixo_list put_same hbc fun j h1 h2 => ?_
  walk_at "wp"
  unfold lstW
  dsimp only
  rw [put_same]
  dsimp only
  have := rmv_len (k := k) (l := P.c (P.f k).par)
  have hj := (List.getElem?_eq_some_iff.mp h1).1
  refine ⟨by rw [List.length_map, sizeLine_val]; omega, by omega, by omega, ?_⟩
  rw [put_put]
  have e1 : ((j : Int) + 1).toNat = j + 1 := by omega
  rw [e1, ← List.map_take, ← List.map_drop]
  have e2 : ((rmv k (P.c (P.f k).par)).take (j + 1)).map W.int ++ [W.int k] ++ ((rmv k (P.c (P.f k).par)).drop (j + 1)).map W.int = (insA b k (rmv k (P.c (P.f k).par))).map W.int := by
    rw [← ix_insA h1 h2]; simp
  rw [e2]
  exact ⟨_, Sub.refl _, hr ad _ (l.setC hp (l := insA b k (rmv k (P.c (P.f k).par)))) rfl (own_list hp)⟩
def N_Panes_put_into : List Str := ["self", "pane", "parent", "fact", "above"]
def ir_Panes_put_into : ISs := .cons (.set 3 (.meth 429 11 "fact_of" (.var 0) (.cons (.var 1) .nil))) (.cons (.exp (.meth 430 11 "list_of" (.var 0) (.cons (.var 2) .nil))) (.cons (.set 4 (.var 2)) (.cons (.whl (.cmp .ne (.var 4) (.cst (.int 0))) (.cons (.iff (.cmp .eq (.var 4) (.var 1)) (.cons (.rse 6) .nil) (.nil)) (.cons (.set 4 (.idx (.idx (.fld 11 (.var 0) "facts") (.var 4)) (.cst (.int 0)))) .nil))) (.cons (.exp (.rem (.meth 430 11 "list_of" (.var 0) (.cons (.idx (.var 3) (.cst (.int 0))) .nil)) (.var 1))) (.cons (.exp (.app (.meth 430 11 "list_of" (.var 0) (.cons (.var 2) .nil)) (.var 1))) (.cons (.asg (.sub (.var 3) (.cst (.int 0))) (.var 2)) .nil))))))
def sp_Panes_put_into (cl : Nat → Addr) : MSp := fun ws S Q X => ∃ ad s nw P d many k p, ws = [.ref (ad .obj), .int k, .int p] ∧ PCtx cl S ad s nw P d many ∧ POut cl S ad s nw P d many Q X (.into k p)
theorem PWf.kf_of {P : PS} {nw : Int} {d : Int → Nat} (w : PWf P nw d) {j : Int} (h : j ∈ P.kl) (h0 : j ≠ 0) : j ∈ P.kf := by
  rw [w.kl] at h
  rcases List.mem_cons.mp h with h | h
  · exact (h0 h).elim
  · exact h
theorem PWf.kl_of {P : PS} {nw : Int} {d : Int → Nat} (w : PWf P nw d) {j : Int} (h : j ∈ P.kf) : j ∈ P.kl := by rw [w.kl]; exact List.mem_cons_of_mem _ h
theorem PWf.chn_step {P : PS} {nw : Int} {d : Int → Nat} (w : PWf P nw d) {j : Int} (h : j ∈ P.kf) : chn P (d j) j = j :: chn P (d (P.f j).par) (P.f j).par := by rw [w.dS j h]; rfl
theorem PWf.chn_0 {P : PS} {nw : Int} {d : Int → Nat} (w : PWf P nw d) : chn P (d 0) 0 = [] := by rw [w.d0]; rfl
theorem pf_Panes_put_into (G : Gs) (hG429 : G 429 = sp_Panes_fact_of G.cl) (hG430 : G 430 = sp_Panes_list_of G.cl) (hx6 : 6 ∈ G.ex) (ws : List W) (S : Sto) (Q : WQ) (X : XQ) (h : sp_Panes_put_into G.cl ws S Q X) : ws.length = 3 ∧ wpF G 5 ir_Panes_put_into ws S Q X := by
  obtain ⟨ad, s, nw, P, d, many, k, p, rfl, c, ho⟩ := h
  refine ⟨rfl, ?_⟩
  have l := c.lay
  unfold wpF ir_Panes_put_into
  walk_at "wp"
  simp only [hG429, hG430, ws_rse]
  refine ⟨l.ins (by decide +kernel), ad, s, nw, P, k, rfl, l, fun hk => ?_, fun hk => ⟨_, Sub.refl _, ho.bad (if_pos hk)⟩⟩
  have hk' : ¬ k ∉ P.kf := fun h => h hk
  dsimp only
  refine ⟨l.ins (by decide +kernel), ad, s, nw, P, p, rfl, l, fun hp => ?_, fun hp => ⟨_, Sub.refl _, ho.bad ((if_neg hk').trans (if_pos hp))⟩⟩
  have hp' : ¬ p ∉ P.kl := fun h => h hp
  dsimp only
  refine WhlG.by (fun n σ S' => ∃ j, j ∈ P.kl ∧ n = d j ∧ (k ∈ chn P (d p) p ↔ k ∈ chn P (d j) j) ∧ S' = S ∧ σ = [some (.ref (ad .obj)), some (.int k), some (.int p), some (.ref (ad (.fact k))), some (.int j)]) _ S (Sub.refl _) ⟨p, hp, rfl, Iff.rfl, rfl, rfl⟩ ?_
  rintro n σ S' ⟨j, hj, rfl, hch, rfl, rfl⟩
  walk_at "wp"
  by_cases c0 : j = 0
  · subst c0
    rw [if_neg (by simp)]
    rw [c.wf.chn_0] at hch
    have hn : k ∉ chn P (d p) p := fun h => by cases hch.mp h
    have hr := ho.good ((if_neg hk').trans ((if_neg hp').trans (if_neg hn)))
    have hq := c.wf.par k hk
    have hkc : k ∈ P.c (P.f k).par := (c.wf.ch _ hq k).mpr ⟨hk, rfl⟩
    have hlen := nd_lenI c.wf hq
    have hlen2 := nd_lenI c.wf hp
    have cl62 := c.len
    walk_at "wp"
    simp only [hG430, l.fact hk]
    refine ⟨l.ins (by decide +kernel), ?_⟩
    show sp_Panes_list_of G.cl [.ref (ad .obj), .int (P.f k).par] S' _ _
    refine ⟨ad, s, nw, P, _, rfl, l, fun _ => ?_, fun hn => (hn hq).elim⟩
    walk_at "wp"
    rw [l.list hq]
    refine ⟨trivial, rem_list (l.list hq) hkc ?_⟩
    have l2 := l.setC hq (l := rmv k (P.c (P.f k).par))
    generalize hS2 : put S' (ad (.list (P.f k).par)) (.lst ((rmv k (P.c (P.f k).par)).map W.int)) = S2 at l2
    have ow2 : Own (P.fp ad) S' (P.fp ad) S2 := hS2 ▸ own_list hq
    walk_at "wp"
    refine ⟨l2.ins (by decide +kernel), ad, s, nw, _, p, rfl, l2, fun _ => ?_, fun hn => (hn hp).elim⟩
    walk_at "wp"
    rw [l2.list (k := p) hp]
    have hlen3 : ((opC P (P.f k).par (rmv k (P.c (P.f k).par))).c p).length ≤ 62 := by
      show (upI P.c (P.f k).par (rmv k (P.c (P.f k).par)) p).length ≤ 62
      by_cases e : p = (P.f k).par
      · rw [e, upI_same]
        have := rmv_len (k := k) (l := P.c (P.f k).par)
        omega
      · rw [upI_ne e]; omega
    refine ⟨trivial, by rw [List.length_map, sizeLine_val]; omega, ?_⟩
    have l3 := l2.setC (k := p) hp (l := (opC P (P.f k).par (rmv k (P.c (P.f k).par))).c p ++ [k])
    rw [List.map_append] at l3
    generalize hS3 : put S2 (ad (.list p)) (.lst ((((opC P (P.f k).par (rmv k (P.c (P.f k).par))).c p).map W.int) ++ [k].map W.int)) = S3 at l3
    have ow3 : Own (P.fp ad) S2 (P.fp ad) S3 := hS3 ▸ own_list (P := P) hp
    have hS3' : put S2 (ad (.list p)) (.lst ((((opC P (P.f k).par (rmv k (P.c (P.f k).par))).c p).map W.int) ++ [W.int k])) = S3 := hS3
    rw [hS3']
    walk_at "wp"
    rw [l3.fact (k := k) hk]
    exact ⟨_, Sub.refl _, hr ad _ (l3.setF (k := k) hk (v := { P.f k with par := p })) rfl ((ow2.trans ow3).trans (own_fact (P := P) hk))⟩
  · rw [if_pos (by simpa using c0)]
    have hjf := c.wf.kf_of hj c0
    have hcs := c.wf.chn_step hjf
    rw [hcs] at hch
    by_cases c1 : j = k
    · rw [if_pos c1]
      walk_at "wp"
      refine ⟨hx6, _, Sub.refl _, ho.bad ((if_neg hk').trans ((if_neg hp').trans (if_pos (hch.mpr ?_))))⟩
      rw [c1]; exact List.mem_cons_self ..
    · rw [if_neg c1]
      walk_at "wp"
      simp only [fld_facts l.obj]
      rw [l.idxF hjf]
      dsimp only
      simp only [idx_ref, l.fact hjf]
      refine ⟨d (P.f j).par, by have := c.wf.dS j hjf; omega, (P.f j).par, c.wf.par j hjf, rfl, hch.trans ⟨fun h => ?_, fun h => List.mem_cons_of_mem _ h⟩, rfl⟩
      rcases List.mem_cons.mp h with h | h
      · exact (c1 h.symm).elim
      · exact h
def N_Panes_open_pane : List Str := ["self", "parent", "sheet", "x", "y", "w", "h", "brothers"]
def ir_Panes_open_pane : ISs := .cons (.set 7 (.meth 430 11 "list_of" (.var 0) (.cons (.var 1) .nil))) (.cons (.exp (.meth 413 10 "size_of" (.fld 11 (.var 0) "kept_sheets") (.cons (.var 2) .nil))) (.cons (.iff (.or (.cmp .lt (.var 5) (.cst (.int 1))) (.cmp .lt (.var 6) (.cst (.int 1)))) (.cons (.rse 1) .nil) (.nil)) (.cons (.sfl 11 (.var 0) "newest" (.bin .add (.fld 11 (.var 0) "newest") (.cst (.int 1)))) (.cons (.asg (.sub (.fld 11 (.var 0) "facts") (.fld 11 (.var 0) "newest")) (.mat (.dsp (.cons (.var 1) (.cons (.var 2) (.cons (.var 3) (.cons (.var 4) (.cons (.var 5) (.cons (.var 6) (.cons (.cst (.int 0)) (.cons (.cst (.int 0)) (.cons (.cst (.bl false)) .nil)))))))))))) (.cons (.asg (.sub (.fld 11 (.var 0) "lists") (.fld 11 (.var 0) "newest")) (.mat (.dsp (.nil)))) (.cons (.exp (.app (.var 7) (.fld 11 (.var 0) "newest"))) (.cons (.ret (.fld 11 (.var 0) "newest")) .nil)))))))
def sp_Panes_open_pane (cl : Nat → Addr) : MSp := fun ws S Q X => ∃ ad s nw P d many p t x y w h, ws = [.ref (ad .obj), .int p, .int t, .int x, .int y, .int w, .int h] ∧ PCtx cl S ad s nw P d many ∧ POut cl S ad s nw P d many Q X (.open p t x y w h)
theorem pf_Panes_open_pane (G : Gs) (hG430 : G 430 = sp_Panes_list_of G.cl) (hG413 : G 413 = sp_Sheets_size_of G.cl) (hx1 : 1 ∈ G.ex) (ws : List W) (S : Sto) (Q : WQ) (X : XQ) (h : sp_Panes_open_pane G.cl ws S Q X) : ws.length = 7 ∧ wpF G 8 ir_Panes_open_pane ws S Q X := by
  obtain ⟨ad, s, nw, P, d, many, p, t, x, y, w, h, rfl, c, ho⟩ := h
  refine ⟨rfl, ?_⟩
  have l := c.lay
  obtain ⟨H, F, sh, hm⟩ := c.sh
  have mn := c.mn
  unfold wpF ir_Panes_open_pane
  walk_at "wp"
  simp only [hG430, hG413, ws_rse]
  refine ⟨l.ins (by decide +kernel), ad, s, nw, P, p, rfl, l, fun hp => ?_, fun hp => ⟨_, Sub.refl _, ho.bad (if_pos hp)⟩⟩
  have hp' : ¬ p ∉ P.kl := fun h => h hp
  dsimp only
  simp only [fld_kept l.obj]
  refine ⟨sh.ins ⟨by decide +kernel, by decide +kernel, by decide +kernel⟩, s, H, F, t, rfl, sh, by omega, fun k2 g e hk2 => ?_, fun hn => ⟨_, Sub.refl _, ho.bad ((if_neg hp').trans (if_pos (by rw [hm] at hn; exact hn)))⟩⟩
  have hlt := (List.getElem?_eq_some_iff.mp hk2).1
  have hs2 : ¬ (t < 0 ∨ (many : Int) ≤ t) := by omega
  have bad : (w < 1 ∨ h < 1) → 1 ∈ G.ex ∧ ∃ S2, Sub S2 S ∧ X (G.cl 1) S2 := fun c => ⟨hx1, _, Sub.refl _, ho.bad ((if_neg hp').trans ((if_neg hs2).trans (if_pos c)))⟩
  dsimp only
  by_cases c1 : w < 1
  · rw [if_pos c1]; exact bad (.inl c1)
  rw [if_neg c1]
  by_cases c2 : h < 1
  · rw [if_pos c2]; exact bad (.inr c2)
  rw [if_neg c2]
  have hr := ho.good ((if_neg hp').trans ((if_neg hs2).trans (if_neg (fun z => z.elim c1 c2))))
  have nf : nw + 1 ∉ P.kf := fun z => by have := (c.wf.pos _ z).2; omega
  have nl : nw + 1 ∉ P.kl := fun z => by
    rw [c.wf.kl] at z
    rcases List.mem_cons.mp z with z | z
    · have := c.wf.n0; omega
    · exact nf z
  walk_at "wp"
  rw [ws_sfl]
  walk_at "wp"
  simp only [fld_newest l.obj]
  walk_at "wp"
  rw [setF_of l.obj (by show 4 < 1000; decide), putF_n]
  have l1 := l.setH (hd' := pnH G.cl s (nw + 1))
  have o1 : Own (P.fp ad) S (P.fp ad) (put S (ad .obj) (pnH G.cl s (nw + 1) (ad .facts) (ad .lists))) := Own.put PLay.fpO
  show wpSs G _ _ _ (put S (ad .obj) (pnH G.cl s (nw + 1) (ad .facts) (ad .lists)))
  generalize put S (ad .obj) (pnH G.cl s (nw + 1) (ad .facts) (ad .lists)) = S1 at *
  walk_at "wp"
  refine ⟨by rw [sizeLine_val]; decide, fun r1 hr1 => ?_⟩
  have lk := c.len
  have sb1 : Sub S1 (put S1 r1 (.lst [W.int p, W.int t, W.int x, W.int y, W.int w, W.int h, W.int 0, W.int 0, W.bl false])) := Sub.put hr1
  simp only [fld_facts (sb1 _ _ l1.obj), fld_newest (sb1 _ _ l1.obj)]
  refine l1.setwF (v := ⟨p, t, x, y, w, h, 0, 0, false⟩) nf hr1 (by omega) fun S3 l3 o3 => ?_
  walk_at "wp"
  refine ⟨by rw [sizeLine_val]; decide, fun r2 hr2 => ?_⟩
  have sb2 : Sub S3 (put S3 r2 (.lst [])) := Sub.put hr2
  have b3 : S3 (ad .obj) = some (pnH G.cl s (nw + 1) (ad .facts) (ad .lists)) := l3.obj
  simp only [fld_lists (sb2 _ _ b3), fld_newest (sb2 _ _ b3)]
  have lkl : P.kl.length ≤ 100 := by rw [c.wf.kl, List.length_cons]; omega
  refine l3.setwL nl hr2 (by show P.kl.length ≤ 1000; omega) fun S4 l4 o4 => ?_
  have np : p ≠ nw + 1 := fun e => nl (e ▸ hp)
  have hp4 : p ∈ P.kl ++ [nw + 1] := List.mem_append_left _ hp
  have ea : adL (adF ad (nw + 1) r1) (nw + 1) r2 (.list p) = ad (.list p) := if_neg np
  have e4 := l4.list (k := p) hp4
  have ec : (upI P.c (nw + 1) [] p) = P.c p := upI_ne np
  rw [ea] at e4
  have e4' : S4 (ad (.list p)) = some (.lst ((P.c p).map W.int)) := by rw [e4]; show some (MO.lst ((upI P.c (nw + 1) [] p).map W.int)) = _; rw [ec]
  have hlen := nd_lenI c.wf hp
  walk_at "wp"
  rw [e4']
  have b4 : S4 (ad .obj) = some (pnH G.cl s (nw + 1) (ad .facts) (ad .lists)) := l4.obj
  refine ⟨trivial, ?_⟩
  simp only [fld_newest b4]
  refine ⟨by rw [List.length_map, sizeLine_val]; omega, ?_⟩
  have l5 := l4.setC (k := p) hp4 (l := P.c p ++ [nw + 1])
  rw [ea, List.map_append] at l5
  have o5 : Own (PS.fp ⟨P.kf ++ [nw + 1], P.kl ++ [nw + 1], upI P.f (nw + 1) ⟨p, t, x, y, w, h, 0, 0, false⟩, upI P.c (nw + 1) []⟩ (adL (adF ad (nw + 1) r1) (nw + 1) r2)) S4 (PS.fp ⟨P.kf ++ [nw + 1], P.kl ++ [nw + 1], upI P.f (nw + 1) ⟨p, t, x, y, w, h, 0, 0, false⟩, upI P.c (nw + 1) []⟩ (adL (adF ad (nw + 1) r1) (nw + 1) r2)) (put S4 (ad (.list p)) (.lst ((P.c p).map W.int ++ [nw + 1].map W.int))) := Own.put ⟨.list p, hp4, ea⟩
  have b5 : put S4 (ad (.list p)) (.lst ((P.c p).map W.int ++ [W.int (nw + 1)])) (ad .obj) = some (pnH G.cl s (nw + 1) (ad .facts) (ad .lists)) := l5.obj
  walk_at "wp"
  simp only [fld_newest b5]
  exact ⟨_, Sub.refl _, hr _ _ l5 rfl (((o1.trans o3).trans o4).trans o5)⟩
def N_Panes_let_go : List Str := ["self", "pane", "going", "one"]
def ir_Panes_let_go : ISs := .cons (.exp (.rem (.meth 430 11 "list_of" (.var 0) (.cons (.idx (.meth 429 11 "fact_of" (.var 0) (.cons (.var 1) .nil)) (.cst (.int 0))) .nil)) (.var 1))) (.cons (.set 2 (.mat (.dsp (.cons (.var 1) .nil)))) (.cons (.whl (.eql false (.of (.var 2)) (.t (.dsp (.nil)))) (.cons (.set 3 (.pop0 (.var 2))) (.cons (.exp (.ext (.var 2) (.of (.dpop (.fld 11 (.var 0) "lists") (.var 3))))) (.cons (.exp (.dpop (.fld 11 (.var 0) "facts") (.var 3))) .nil)))) .nil))
theorem PWf.chn_kf {P : PS} {nw : Int} {d : Int → Nat} (w : PWf P nw d) {a : Int} : ∀ (n : Nat) {j : Int}, d j = n → j ∈ P.kl → a ∈ chn P n j → a ∈ P.kf ∧ d a ≤ d j
  | 0, j, _, _, h => by cases h
  | n + 1, j, hd, hj, h => by
    have hjf : j ∈ P.kf := w.kf_of hj (fun e => by rw [e, w.d0] at hd; cases hd)
    have := w.dS j hjf
    rcases List.mem_cons.mp h with rfl | h
    · exact ⟨hjf, Nat.le_refl _⟩
    · have := w.chn_kf n (by omega) (w.par j hjf) h
      exact ⟨this.1, by omega⟩
theorem PWf.chn_le {P : PS} {nw : Int} {d : Int → Nat} (w : PWf P nw d) {a j : Int} (hj : j ∈ P.kl) (h : a ∈ chn P (d j) j) : a ∈ P.kf ∧ d a ≤ d j := w.chn_kf (d j) rfl hj h
theorem PWf.chn_child {P : PS} {nw : Int} {d : Int → Nat} (w : PWf P nw d) {a : Int} : ∀ (n : Nat) {j : Int}, d j = n → j ∈ P.kl → a ∈ chn P n j → a ≠ j → ∃ b, b ∈ P.kf ∧ (P.f b).par = a ∧ b ∈ chn P n j
  | 0, j, _, _, h, _ => by cases h
  | n + 1, j, hd, hj, h, hne => by
    have hjf : j ∈ P.kf := w.kf_of hj (fun e => by rw [e, w.d0] at hd; cases hd)
    have := w.dS j hjf
    rcases List.mem_cons.mp h with rfl | h
    · exact (hne rfl).elim
    · by_cases e : a = (P.f j).par
      · exact ⟨j, hjf, e.symm, List.mem_cons_self ..⟩
      · obtain ⟨b, h1, h2, h3⟩ := w.chn_child n (by omega) (w.par j hjf) h e
        exact ⟨b, h1, h2, List.mem_cons_of_mem _ h3⟩
structure LG (P : PS) (d : Int → Nat) (k : Int) (R g : List Int) : Prop where
  sub : ∀ j, j ∈ R ∨ j ∈ g → j ∈ P.kf ∧ k ∈ chn P (d j) j
  nd : g.Nodup
  nR : ∀ j ∈ g, j ∉ R
  up : ∀ j, j ∈ R ∨ j ∈ g → j = k ∨ (P.f j).par ∈ R
  cov : ∀ j ∈ P.kf, k ∈ chn P (d j) j → j ∈ R ∨ ∃ a ∈ g, a ∈ chn P (d j) j
theorem LG.start {P : PS} {nw : Int} {d : Int → Nat} (w : PWf P nw d) {k : Int} (hk : k ∈ P.kf) : LG P d k [] [k] where
  sub j h := by
    rcases h with h | h
    · cases h
    · rw [List.mem_singleton] at h
      subst h
      exact ⟨hk, by rw [w.chn_step hk]; exact List.mem_cons_self ..⟩
  nd := by simp
  nR j _ h := by cases h
  up j h := by
    rcases h with h | h
    · cases h
    · exact .inl (List.mem_singleton.mp h)
  cov j _ h := .inr ⟨k, List.mem_singleton.mpr rfl, h⟩
theorem LG.notpar {P : PS} {nw : Int} {d : Int → Nat} (w : PWf P nw d) {k : Int} (hk : k ∈ P.kf) {j : Int} (hj : j ∈ P.kf ∧ k ∈ chn P (d j) j) : j ≠ (P.f k).par := fun e => by
  have h1 := (w.chn_le (w.kl_of hj.1) hj.2).2
  have h2 := w.dS k hk
  rw [e] at h1
  omega
theorem LG.step {P : PS} {nw : Int} {d : Int → Nat} (w : PWf P nw d) {k : Int} (hk : k ∈ P.kf) {R g : List Int} {one : Int} (h : LG P d k R (g ++ [one])) : LG P d k (one :: R) (g ++ P.c one) := by
  have h1 := h.sub one (.inr (by simp))
  have np := LG.notpar w hk h1
  have onR := h.nR one (by simp)
  obtain ⟨nd0, _, nd2⟩ := List.nodup_append.mp h.nd
  have hone : one ∈ P.kl := w.kl_of h1.1
  have ch := w.ch one hone
  have nk : ∀ j, j ∈ P.c one → j ≠ k := fun j hj e => np (by rw [← e]; exact ((ch j).mp hj).2.symm)
  have ing : ∀ {j}, j ∈ g → j ∈ g ++ [one] := fun hj => List.mem_append_left _ hj
  refine ⟨fun j hj => ?_, ?_, fun j hj => ?_, fun j hj => ?_, fun j hj hc => ?_⟩
  · rcases hj with hj | hj
    · rcases List.mem_cons.mp hj with rfl | hj
      · exact h1
      · exact h.sub j (.inl hj)
    · rcases List.mem_append.mp hj with hj | hj
      · exact h.sub j (.inr (ing hj))
      · obtain ⟨a, b⟩ := (ch j).mp hj
        exact ⟨a, by rw [w.chn_step a, b]; exact List.mem_cons_of_mem _ h1.2⟩
  · refine List.nodup_append.mpr ⟨nd0, w.nd one hone, fun a ha b hb e => ?_⟩
    subst e
    rcases h.up a (.inr (ing ha)) with e | e
    · exact nk a hb e
    · rw [((ch a).mp hb).2] at e; exact onR e
  · rcases List.mem_append.mp hj with hj | hj
    · intro z
      rcases List.mem_cons.mp z with z | z
      · exact nd2 j hj one (by simp) z
      · exact h.nR j (ing hj) z
    · intro z
      obtain ⟨a, b⟩ := (ch j).mp hj
      rcases List.mem_cons.mp z with z | z
      · have := w.dS j a
        rw [b, z] at this
        omega
      · rcases h.up j (.inl z) with e | e
        · exact nk j hj e
        · rw [b] at e; exact onR e
  · rcases hj with hj | hj
    · rcases List.mem_cons.mp hj with rfl | hj
      · exact (h.up j (.inr (by simp))).imp id (List.mem_cons_of_mem _)
      · exact (h.up j (.inl hj)).imp id (List.mem_cons_of_mem _)
    · rcases List.mem_append.mp hj with hj | hj
      · exact (h.up j (.inr (ing hj))).imp id (List.mem_cons_of_mem _)
      · exact .inr (by rw [((ch j).mp hj).2]; exact List.mem_cons_self ..)
  · rcases h.cov j hj hc with z | ⟨a, ha, hac⟩
    · exact .inl (List.mem_cons_of_mem _ z)
    · rcases List.mem_append.mp ha with ha | ha
      · exact .inr ⟨a, List.mem_append_left _ ha, hac⟩
      · rw [List.mem_singleton] at ha
        subst ha
        by_cases e : a = j
        · exact .inl (by rw [e]; exact List.mem_cons_self ..)
        · obtain ⟨b, b1, b2, b3⟩ := w.chn_child (d j) rfl (w.kl_of hj) hac e
          exact .inr ⟨b, List.mem_append_right _ ((ch b).mpr ⟨b1, b2⟩), b3⟩
theorem LG.end_ {P : PS} {d : Int → Nat} {k : Int} {R : List Int} (h : LG P d k R []) {j : Int} (hj : j ∈ P.kf) : j ∈ R ↔ k ∈ chn P (d j) j :=
  ⟨fun z => (h.sub j (.inl z)).2, fun z => (h.cov j hj z).elim id fun ⟨a, ha, _⟩ => by cases ha⟩
def notIn (R : List Int) (ks : List Int) : List Int := ks.filter fun j => decide (j ∉ R)
theorem notIn_cons {R ks : List Int} {a : Int} : (notIn R ks).filter (fun z => decide (z ≠ a)) = notIn (a :: R) ks := by
  unfold notIn
  rw [List.filter_filter]
  refine List.filter_congr fun j _ => ?_
  rw [← Bool.decide_and]
  exact decide_eq_decide.mpr (by rw [List.mem_cons]; exact ⟨fun ⟨a, b⟩ z => z.elim a b, fun z => ⟨fun e => z (.inl e), fun e => z (.inr e)⟩⟩)
theorem notIn_nil {ks : List Int} : notIn [] ks = ks := by
  unfold notIn
  refine List.filter_eq_self.mpr fun a _ => ?_
  simp
def sp_Panes_let_go (cl : Nat → Addr) : MSp := fun ws S Q X => ∃ ad s nw P d many k, ws = [.ref (ad .obj), .int k] ∧ PCtx cl S ad s nw P d many ∧ POut cl S ad s nw P d many Q X (.go k)
theorem pf_Panes_let_go (G : Gs) (hG429 : G 429 = sp_Panes_fact_of G.cl) (hG430 : G 430 = sp_Panes_list_of G.cl) (ws : List W) (S : Sto) (Q : WQ) (X : XQ) (h : sp_Panes_let_go G.cl ws S Q X) : ws.length = 2 ∧ wpF G 4 ir_Panes_let_go ws S Q X := by
  obtain ⟨ad, s, nw, P, d, many, k, rfl, c, ho⟩ := h
  refine ⟨rfl, ?_⟩
  have l := c.lay
  unfold wpF ir_Panes_let_go
  walk_at "wp"
  simp only [hG429, hG430]
  refine ⟨l.ins (by decide +kernel), l.ins (by decide +kernel), ad, s, nw, P, k, rfl, l, fun hk => ?_, fun hk => ⟨_, Sub.refl _, ho.bad (if_pos hk)⟩⟩
  have hr := ho.good (if_neg (fun h : k ∉ P.kf => h hk))
  have hp := c.wf.par k hk
  have hkc : k ∈ P.c (P.f k).par := (c.wf.ch _ hp k).mpr ⟨hk, rfl⟩
  have hlen := nd_lenI c.wf hp
  have cl62 := c.len
  dsimp only
  simp only [idx_ref, l.fact hk]
  show sp_Panes_list_of G.cl [.ref (ad .obj), .int (P.f k).par] S _ _
  refine ⟨ad, s, nw, P, _, rfl, l, fun _ => ?_, fun hn => (hn hp).elim⟩
  walk_at "wp"
  rw [l.list hp]
  refine ⟨trivial, rem_list (l.list hp) hkc ?_⟩
  have l2 := l.setC hp (l := rmv k (P.c (P.f k).par))
  generalize hS2 : put S (ad (.list (P.f k).par)) (.lst ((rmv k (P.c (P.f k).par)).map W.int)) = S2 at l2
  have ow2 : Own (P.fp ad) S (P.fp ad) S2 := hS2 ▸ own_list hp
  walk_at "wp"
  refine ⟨by rw [sizeLine_val]; decide, fun q hq => ?_⟩
  have c'0 : ∀ R g, LG P d k R g → ∀ one ∈ g, upI P.c (P.f k).par (rmv k (P.c (P.f k).par)) one = P.c one := fun R g hg one ho => upI_ne (LG.notpar c.wf hk (hg.sub one (.inr ho)))
  refine WhlG.by (fun n σ S' => ∃ (R g : List Int) (b3 : Option W), LG P d k R g ∧ n = (notIn R P.kf).length ∧ PLay S' (pnH G.cl s nw) ⟨notIn R P.kf, notIn R P.kl, P.f, upI P.c (P.f k).par (rmv k (P.c (P.f k).par))⟩ ad ∧ S' q = some (.lst (g.map W.int)) ∧ Own (P.fp ad) S (P.fp ad) S' ∧ σ = [some (.ref (ad .obj)), some (.int k), some (.ref q), b3]) _ _ (Sub.refl _)
    ⟨[], [k], none, LG.start c.wf hk, rfl, by rw [notIn_nil, notIn_nil]; exact l2.subP (Sub.put hq), put_same, ow2.sub (Sub.put hq), rfl⟩ ?_
  rintro n σ S' ⟨R, g, b3, lg, rfl, l', hg, ow, rfl⟩
  have hSq : S q = none := by
    cases e : S q with
    | none => rfl
    | some u =>
      rw [← hS2] at hq
      exact absurd hq (by
        by_cases z : q = ad (.list (P.f k).par)
        · rw [z, put_same]; exact Option.some_ne_none _
        · rw [put_ne z, e]; exact Option.some_ne_none _)
  have nq : ¬ P.fp ad q := l.not hSq
  walk_at "wp"
  rw [hg]
  dsimp only
  refine ⟨Nat.zero_le _, nofun, nofun, rfl, EncOk.eqsOk (d := 0) EncOk.int (by decide) g, EncOk.eqsOk (d := 0) EncOk.int (by decide) [], ?_⟩
  have hev : W.eqvs (g.map W.int) [] = decide (g = []) := EncOk.eqvs (d := 0) EncOk.int g []
  rw [hev]
  have hgl : g.length ≤ 62 := Nat.le_trans (nd_sub_len lg.nd fun j hj => (lg.sub j (.inr hj)).1) cl62
  by_cases hg0 : g = []
  · subst hg0
    rw [if_neg (by simp)]
    have e1 : ∀ ks, (∀ j ∈ ks, j ∈ P.kl) → notIn R ks = ks.filter fun j => decide (k ∉ chn P (d j) j) := fun ks hks => by
      refine List.filter_congr fun j hj => decide_eq_decide.mpr (not_congr ?_)
      by_cases j0 : j = 0
      · subst j0
        rw [c.wf.chn_0]
        exact ⟨fun z => by have := (c.wf.pos _ (lg.sub _ (.inl z)).1).1; omega, fun z => by cases z⟩
      · exact lg.end_ (c.wf.kf_of (hks j hj) j0)
    rw [e1 P.kf fun j hj => c.wf.kl_of hj, e1 P.kl fun j hj => hj] at l'
    refine ⟨_, Sub.refl _, hr ad _ l' rfl ⟨ow.fr, fun q hq => ?_⟩⟩
    obtain ⟨x, hx, rfl⟩ := hq
    refine .inl ⟨x, ?_, rfl⟩
    cases x with
    | fact j => exact (List.mem_filter.mp hx).1
    | list j => exact (List.mem_filter.mp hx).1
    | obj => trivial
    | facts => trivial
    | lists => trivial
  obtain ⟨g0, one, rfl⟩ : ∃ g0 one, g = g0 ++ [one] := ⟨g.dropLast, g.getLast hg0, (List.dropLast_concat_getLast hg0).symm⟩
  rw [if_pos (by simp)]
  have lg2 := LG.step c.wf hk lg
  have ho1 := lg.sub one (.inr (by simp))
  have onR := lg.nR one (by simp)
  have okf : one ∈ notIn R P.kf := List.mem_filter.mpr ⟨ho1.1, decide_eq_true onR⟩
  have okl : one ∈ notIn R P.kl := List.mem_filter.mpr ⟨c.wf.kl_of ho1.1, decide_eq_true onR⟩
  have eg : ((g0 ++ [one]).map W.int)[((g0 ++ [one]).map W.int).length - 1]? = some (.int one) := by
    rw [List.map_append]; simp
  have ed : ((g0 ++ [one]).map W.int).dropLast = g0.map W.int := by rw [List.map_append, List.map_singleton, List.dropLast_concat]
  rw [eg, ed]
  dsimp only
  have nq' : ∀ x, PS.ok ⟨notIn R P.kf, notIn R P.kl, P.f, upI P.c (P.f k).par (rmv k (P.c (P.f k).par))⟩ x → q ≠ ad x := fun x hx e => by have h1 := l'.inj; have := (l'.known ⟨x, hx, rfl⟩); exact nq ⟨x, (by cases x <;> first | trivial | exact (List.mem_filter.mp hx).1), e.symm⟩
  have l3 : PLay (put S' q (.lst (g0.map W.int))) (pnH G.cl s nw) ⟨notIn R P.kf, notIn R P.kl, P.f, upI P.c (P.f k).par (rmv k (P.c (P.f k).par))⟩ ad := l'.putP fun ⟨x, hx, e⟩ => nq' x hx e.symm
  have hq3 : put S' q (.lst (g0.map W.int)) q = some (.lst (g0.map W.int)) := put_same
  have ow3 : Own (P.fp ad) S (P.fp ad) (put S' q (.lst (g0.map W.int))) := ⟨fun a o n e => by
    rw [put_ne (fun z => by rw [z, hSq] at e; cases e)]; exact ow.fr a o n e, ow.nw⟩
  generalize put S' q (.lst (g0.map W.int)) = S3 at *
  refine ⟨trivial, ?_⟩
  simp only [fld_lists l3.obj]
  refine ⟨⟨_, _, rfl, l3.lists⟩, ?_⟩
  unfold dkW
  dsimp only
  rw [l3.lists]
  dsimp only [dkL, keyW]
  rw [valD_int, if_pos okl]
  dsimp only
  rw [dropD_int]
  have l4 := l3.delL (n := one)
  have hl4 : put S3 (ad .lists) (dkL ad ((notIn R P.kl).filter fun z => decide (z ≠ one))) (ad (.list one)) = some (.lst ((P.c one).map W.int)) := by
    have h1 := l3.list (k := one) okl
    rw [put_ne (fun e => by have := l3.inj (.list one) .lists okl trivial e; cases this), h1]
    show some (MO.lst ((upI P.c (P.f k).par (rmv k (P.c (P.f k).par)) one).map W.int)) = _
    rw [c'0 R _ lg one (by simp)]
  have hq4 : put S3 (ad .lists) (dkL ad ((notIn R P.kl).filter fun z => decide (z ≠ one))) q = some (.lst (g0.map W.int)) := by rw [put_ne (nq' .lists trivial)]; exact hq3
  have ow4 : Own (P.fp ad) S (P.fp ad) (put S3 (ad .lists) (dkL ad ((notIn R P.kl).filter fun z => decide (z ≠ one)))) := ow3.trans (Own.put ⟨.lists, trivial, rfl⟩)
  generalize hS4 : put S3 (ad PR.lists) (MO.dk false (((notIn R P.kl).filter fun z => decide (z ≠ one)).map fun y => ((Sum.inl y : Key), W.ref (ad (.list y))))) = S4
  replace hS4 : put S3 (ad .lists) (dkL ad ((notIn R P.kl).filter fun z => decide (z ≠ one))) = S4 := hS4
  rw [hS4] at l4 hl4 hq4 ow4
  rw [hl4]
  dsimp only
  rw [hq4]
  dsimp only
  have hcl : (P.c one).length ≤ P.kf.length := nd_lenI c.wf (c.wf.kl_of ho1.1)
  have hg0l : g0.length ≤ 62 := by rw [List.length_append] at hgl; omega
  refine ⟨by rw [List.length_map, List.length_map, sizeLine_val]; omega, ?_⟩
  rw [← List.map_append]
  have nq4 : ¬ PS.fp ⟨notIn R P.kf, (notIn R P.kl).filter fun z => decide (z ≠ one), P.f, upI P.c (P.f k).par (rmv k (P.c (P.f k).par))⟩ ad q := fun ⟨x, hx, e⟩ => nq' x (by
    cases x with
    | list j => exact (List.mem_filter.mp hx).1
    | _ => exact hx) e.symm
  have l5 := PLay.putP (o := .lst ((g0 ++ P.c one).map W.int)) l4 nq4
  have hq5 : put S4 q (.lst ((g0 ++ P.c one).map W.int)) q = some (.lst ((g0 ++ P.c one).map W.int)) := put_same
  have ow5 : Own (P.fp ad) S (P.fp ad) (put S4 q (.lst ((g0 ++ P.c one).map W.int))) := ⟨fun a o n e => by
    rw [put_ne (fun z => by rw [z, hSq] at e; cases e)]; exact ow4.fr a o n e, ow4.nw⟩
  generalize put S4 q (.lst ((g0 ++ P.c one).map W.int)) = S5 at *
  simp only [fld_facts l5.obj]
  refine ⟨⟨_, _, rfl, l5.facts⟩, ?_⟩
  rw [l5.facts]
  dsimp only [dkF, keyW]
  rw [valD_int, if_pos okf]
  dsimp only
  rw [dropD_int]
  have l6 := l5.delF (n := one)
  have hq6 : put S5 (ad .facts) (dkF ad ((notIn R P.kf).filter fun z => decide (z ≠ one))) q = some (.lst ((g0 ++ P.c one).map W.int)) := by rw [put_ne (nq' .facts trivial)]; exact hq5
  have ow6 : Own (P.fp ad) S (P.fp ad) (put S5 (ad .facts) (dkF ad ((notIn R P.kf).filter fun z => decide (z ≠ one)))) := ow5.trans (Own.put ⟨.facts, trivial, rfl⟩)
  have e1 : (notIn R P.kf).filter (fun z => decide (z ≠ one)) = notIn (one :: R) P.kf := notIn_cons
  have e2 : (notIn R P.kl).filter (fun z => decide (z ≠ one)) = notIn (one :: R) P.kl := notIn_cons
  have hless : (notIn (one :: R) P.kf).length < (notIn R P.kf).length := by
    rw [← e1]
    exact List.length_filter_lt_length_iff_exists.mpr ⟨one, okf, by simp⟩
  rw [e1] at l6 hq6 ow6
  rw [e2] at l6
  rw [e1]
  exact ⟨_, hless, one :: R, g0 ++ P.c one, _, lg2, rfl, l6, hq6, ow6, rfl⟩
def N_Panes_init : List Str := ["self", "sheets"]
def ir_Panes_init : ISs := .cons (.sfl 11 (.var 0) "kept_sheets" (.var 1)) (.cons (.sfl 11 (.var 0) "facts" (.dnew false)) (.cons (.sfl 11 (.var 0) "lists" (.ddsp [.inl 0] (.cons (.mat (.dsp (.nil))) .nil))) (.cons (.sfl 11 (.var 0) "newest" (.cst (.int 0))) .nil)))
def P0 : PS := ⟨[], [0], fun _ => ⟨0, 0, 0, 0, 0, 0, 0, 0, false⟩, fun _ => []⟩
theorem P0_wf : PWf P0 0 (fun _ => 0) where
  kl := rfl
  inc := List.Pairwise.nil
  pos k h := by cases h
  par k h := by cases h
  d0 := rfl
  dS k h := by cases h
  nd k _ := List.nodup_nil
  ch k _ j := ⟨fun h => (by cases h), fun h => (by cases h.1)⟩
  n0 := Int.le_refl _
theorem putF_k1 {w : W} : putFW "kept_sheets" w [] = [(("kept_sheets" : Str), w)] := rfl
theorem putF_k2 {w a : W} : putFW "facts" w [(("kept_sheets" : Str), a)] = [(("kept_sheets" : Str), a), (("facts" : Str), w)] := by
  unfold putFW
  rw [if_neg (by decide +kernel)]; rfl
theorem putF_k3 {w a b : W} : putFW "lists" w [(("kept_sheets" : Str), a), (("facts" : Str), b)] = [(("kept_sheets" : Str), a), (("facts" : Str), b), (("lists" : Str), w)] := by
  unfold putFW
  rw [if_neg (by decide +kernel)]
  unfold putFW
  rw [if_neg (by decide +kernel)]; rfl
theorem putF_k4 {w a b c : W} : putFW "newest" w [(("kept_sheets" : Str), a), (("facts" : Str), b), (("lists" : Str), c)] = [(("kept_sheets" : Str), a), (("facts" : Str), b), (("lists" : Str), c), (("newest" : Str), w)] := by
  unfold putFW
  rw [if_neg (by decide +kernel)]
  unfold putFW
  rw [if_neg (by decide +kernel)]
  unfold putFW
  rw [if_neg (by decide +kernel)]; rfl
def sp_Panes_init (cl : Nat → Addr) : MSp := fun ws S Q _ => ∃ p s, ws = [.ref p, .ref s] ∧ S p = some (.ins (cl 11) []) ∧ ∀ ad S', PLay S' (pnH cl s 0) P0 ad → ad .obj = p → Own (fun q => q = p) S (P0.fp ad) S' → Q .non S'
theorem pf_Panes_init (G : Gs) (ws : List W) (S : Sto) (Q : WQ) (X : XQ) (h : sp_Panes_init G.cl ws S Q X) : ws.length = 2 ∧ wpF G 2 ir_Panes_init ws S Q X := by
  obtain ⟨p, s, rfl, hp, hq⟩ := h
  refine ⟨rfl, ?_⟩
  unfold wpF ir_Panes_init
  walk_at "wp"
  simp only [ws_sfl]
  walk_at "wp"
  rw [setF_of hp (by decide), putF_k1]
  have h1 : put S p (.ins (G.cl 11) [("kept_sheets", .ref s)]) p = some (.ins (G.cl 11) [("kept_sheets", .ref s)]) := put_same
  have o1 : Own (fun q => q = p) S (fun q => q = p) (put S p (.ins (G.cl 11) [("kept_sheets", .ref s)])) := Own.put rfl
  generalize put S p (.ins (G.cl 11) [("kept_sheets", .ref s)]) = S1 at *
  walk_at "wp"
  rw [ws_sfl]
  walk_at "wp"
  intro a ha
  rw [if_neg (by decide : ¬ (false = true))]
  have pa : p ≠ a := (ne_new h1 ha).symm
  have ha0 : S a = none := by
    cases e : S a with
    | none => rfl
    | some u => have := o1.at (fun z : a = p => pa z.symm) e; rw [ha] at this; cases this
  have h2 : put S1 a (.dk false []) p = some (.ins (G.cl 11) [("kept_sheets", .ref s)]) := by rw [put_ne pa]; exact h1
  rw [setF_of h2 (by show 1 < 1000; decide), putF_k2]
  have a3 : put (put S1 a (.dk false [])) p (.ins (G.cl 11) [("kept_sheets", .ref s), ("facts", .ref a)]) a = some (.dk false []) := by rw [put_ne pa.symm, put_same]
  have h3 : put (put S1 a (.dk false [])) p (.ins (G.cl 11) [("kept_sheets", .ref s), ("facts", .ref a)]) p = some (.ins (G.cl 11) [("kept_sheets", .ref s), ("facts", .ref a)]) := put_same
  have o3 : Own (fun q => q = p) S (fun q => q = p) (put (put S1 a (.dk false [])) p (.ins (G.cl 11) [("kept_sheets", .ref s), ("facts", .ref a)])) := (o1.sub (Sub.put ha)).trans (Own.put rfl)
  generalize put (put S1 a (.dk false [])) p (.ins (G.cl 11) [("kept_sheets", .ref s), ("facts", .ref a)]) = S3 at *
  walk_at "wp"
  rw [ws_sfl]
  walk_at "wp"
  refine ⟨by rw [sizeLine_val]; decide, fun q hq0 b hb => ?_⟩
  have pq : p ≠ q := (ne_new h3 hq0).symm
  have hq00 : S q = none := by
    cases e : S q with
    | none => rfl
    | some u => have := o3.at (fun z : q = p => pq z.symm) e; rw [hq0] at this; cases this
  have aq : a ≠ q := (ne_new a3 hq0).symm
  have s4 : Sub S3 (put S3 q (.lst [])) := Sub.put hq0
  have q4 : put S3 q (.lst []) q = some (.lst []) := put_same
  have h4 := s4 _ _ h3
  have a4 := s4 _ _ a3
  have o4 := o3.sub s4
  generalize put S3 q (.lst []) = S4 at *
  have pb : p ≠ b := (ne_new h4 hb).symm
  have hb0 : S b = none := by
    cases e : S b with
    | none => rfl
    | some u => have := o4.at (fun z : b = p => pb z.symm) e; rw [hb] at this; cases this
  have ab : a ≠ b := (ne_new a4 hb).symm
  have qb : q ≠ b := (ne_new q4 hb).symm
  have emk : mkD [Sum.inl 0] [W.ref q] = [((Sum.inl 0 : Key), W.ref q)] := rfl
  rw [emk]
  have s5 : Sub S4 (put S4 b (.dk false [((Sum.inl 0 : Key), W.ref q)])) := Sub.put hb
  have b5 : put S4 b (.dk false [((Sum.inl 0 : Key), W.ref q)]) b = some (.dk false [((Sum.inl 0 : Key), W.ref q)]) := put_same
  have h5 := s5 _ _ h4
  have a5 := s5 _ _ a4
  have q5 := s5 _ _ q4
  have o5 := o4.sub s5
  generalize put S4 b (.dk false [((Sum.inl 0 : Key), W.ref q)]) = S5 at *
  rw [setF_of h5 (by show 2 < 1000; decide), putF_k3]
  have h6 : put S5 p (.ins (G.cl 11) [("kept_sheets", .ref s), ("facts", .ref a), ("lists", .ref b)]) p = some (.ins (G.cl 11) [("kept_sheets", .ref s), ("facts", .ref a), ("lists", .ref b)]) := put_same
  have a6 : put S5 p (.ins (G.cl 11) [("kept_sheets", .ref s), ("facts", .ref a), ("lists", .ref b)]) a = _ := (put_ne pa.symm).trans a5
  have q6 : put S5 p (.ins (G.cl 11) [("kept_sheets", .ref s), ("facts", .ref a), ("lists", .ref b)]) q = _ := (put_ne pq.symm).trans q5
  have b6 : put S5 p (.ins (G.cl 11) [("kept_sheets", .ref s), ("facts", .ref a), ("lists", .ref b)]) b = _ := (put_ne pb.symm).trans b5
  have o6 : Own (fun q => q = p) S (fun q => q = p) (put S5 p (.ins (G.cl 11) [("kept_sheets", .ref s), ("facts", .ref a), ("lists", .ref b)])) := o5.trans (Own.put rfl)
  generalize put S5 p (.ins (G.cl 11) [("kept_sheets", .ref s), ("facts", .ref a), ("lists", .ref b)]) = S6 at *
  walk_at "wp"
  rw [ws_sfl]
  walk_at "wp"
  rw [setF_of h6 (by show 3 < 1000; decide), putF_k4]
  have o7 : Own (fun q => q = p) S (fun q => q = p) (put S6 p (.ins (G.cl 11) [("kept_sheets", .ref s), ("facts", .ref a), ("lists", .ref b), ("newest", .int 0)])) := o6.trans (Own.put rfl)
  let ad : PR → Addr := fun | .obj => p | .facts => a | .lists => b | .fact _ => p | .list _ => q
  refine ⟨_, Sub.refl _, hq ad _ ⟨fun x hx => ?_, fun x y hx hy e => ?_⟩ rfl ⟨o7.fr, fun z hz => ?_⟩⟩
  · cases x with
    | obj => exact put_same
    | facts => exact (put_ne pa.symm).trans a6
    | lists => exact (put_ne pb.symm).trans b6
    | fact k => cases hx
    | list k => exact (put_ne pq.symm).trans q6
  · cases x with
    | fact k => cases hx
    | obj => cases y with
      | obj => rfl
      | facts => exact (pa e).elim
      | lists => exact (pb e).elim
      | fact k => cases hy
      | list k => exact (pq e).elim
    | facts => cases y with
      | obj => exact (pa e.symm).elim
      | facts => rfl
      | lists => exact (ab e).elim
      | fact k => cases hy
      | list k => exact (aq e).elim
    | lists => cases y with
      | obj => exact (pb e.symm).elim
      | facts => exact (ab e.symm).elim
      | lists => rfl
      | fact k => cases hy
      | list k => exact (qb e.symm).elim
    | list k => cases y with
      | obj => exact (pq e.symm).elim
      | facts => exact (aq e.symm).elim
      | lists => exact (qb e).elim
      | fact k => cases hy
      | list j =>
        have h1 : k = 0 := List.mem_singleton.mp hx
        have h2 : j = 0 := List.mem_singleton.mp hy
        rw [h1, h2]
  · obtain ⟨x, hx, rfl⟩ := hz
    cases x with
    | obj => exact .inl rfl
    | facts => exact .inr ha0
    | lists => exact .inr hb0
    | fact k => cases hx
    | list k => exact .inr hq00
def PRow.nw (nw : Int) : PRow → Int
  | .open _ _ _ _ _ _ => nw + 1
  | _ => nw
theorem PWf.opF {P : PS} {nw : Int} {d : Int → Nat} (w : PWf P nw d) {k : Int} {v : Fc} (hv : v.par = (P.f k).par) : PWf (opF P k v) nw d := by
  have e : ∀ j, ((M3.opF P k v).f j).par = (P.f j).par := fun j => by
    show (upI P.f k v j).par = _
    by_cases c : j = k
    · rw [c, upI_same, hv]
    · rw [upI_ne c]
  exact ⟨w.kl, w.inc, w.pos, fun j hj => by rw [e]; exact w.par j hj, w.d0, fun j hj => by rw [e]; exact w.dS j hj, w.nd, fun j hj i => by rw [e]; exact w.ch j hj i, w.n0⟩
theorem PWf.opC {P : PS} {nw : Int} {d : Int → Nat} (w : PWf P nw d) {k : Int} {l : List Int} (hl : l.Nodup) (hm : k ∈ P.kl → ∀ j, j ∈ l ↔ j ∈ P.c k) : PWf (opC P k l) nw d := by
  refine ⟨w.kl, w.inc, w.pos, w.par, w.d0, w.dS, fun j hj => ?_, fun j hj i => ?_, w.n0⟩
  · show (upI P.c k l j).Nodup
    by_cases c : j = k
    · rw [c, upI_same]; exact hl
    · rw [upI_ne c]; exact w.nd j hj
  · show i ∈ upI P.c k l j ↔ _
    by_cases c : j = k
    · subst c
      rw [upI_same, hm hj i]; exact w.ch j hj i
    · rw [upI_ne c]; exact w.ch j hj i
theorem PWf.opOpen {P : PS} {nw : Int} {d : Int → Nat} (w : PWf P nw d) {v : Fc} (hv : v.par ∈ P.kl) : PWf (opOpen P (nw + 1) v) (nw + 1) (upI d (nw + 1) (d v.par + 1)) := by
  have nf : nw + 1 ∉ P.kf := fun z => by have := (w.pos _ z).2; omega
  have nl : nw + 1 ∉ P.kl := fun z => by
    rw [w.kl] at z
    rcases List.mem_cons.mp z with z | z
    · have := w.n0; omega
    · exact nf z
  have n0 := w.n0
  have hp : v.par ≠ nw + 1 := fun e => nl (e ▸ hv)
  have fo : ∀ j ∈ P.kf, upI P.f (nw + 1) v j = P.f j := fun j hj => upI_ne (fun e => nf (e ▸ hj))
  have dk : ∀ j ∈ P.kl, upI d (nw + 1) (d v.par + 1) j = d j := fun j hj => upI_ne (fun e => nl (e ▸ hj))
  have z0 : (0 : Int) ∈ P.kl := by rw [w.kl]; exact List.mem_cons_self ..
  refine ⟨?_, ?_, fun j hj => ?_, fun j hj => ?_, ?_, fun j hj => ?_, fun j hj => ?_, fun j hj i => ?_, by omega⟩
  · show P.kl ++ [nw + 1] = 0 :: (P.kf ++ [nw + 1])
    rw [w.kl]; rfl
  · show (P.kf ++ [nw + 1]).Pairwise (· < ·)
    refine List.pairwise_append.mpr ⟨w.inc, List.pairwise_singleton .., fun a ha b hb => ?_⟩
    rw [List.mem_singleton] at hb
    have := (w.pos a ha).2
    omega
  · rcases List.mem_append.mp hj with hj | hj
    · have := w.pos j hj; omega
    · rw [List.mem_singleton] at hj; omega
  · show (upI P.f (nw + 1) v j).par ∈ P.kl ++ [nw + 1]
    rcases List.mem_append.mp hj with hj | hj
    · rw [fo j hj]; exact List.mem_append_left _ (w.par j hj)
    · rw [List.mem_singleton.mp hj, upI_same]; exact List.mem_append_left _ hv
  · rw [dk 0 z0]; exact w.d0
  · show upI d (nw + 1) (d v.par + 1) j = upI d (nw + 1) (d v.par + 1) (upI P.f (nw + 1) v j).par + 1
    rcases List.mem_append.mp hj with hj | hj
    · rw [fo j hj, dk _ (w.par j hj), dk j (w.kl_of hj)]; exact w.dS j hj
    · rw [List.mem_singleton.mp hj, upI_same, upI_same, dk _ hv]
  · show (upI (upI P.c (nw + 1) []) v.par (P.c v.par ++ [nw + 1]) j).Nodup
    have old : ∀ i ∈ P.kl, nw + 1 ∉ P.c i := fun i hi z => nf ((w.ch i hi _).mp z).1
    by_cases c : j = v.par
    · rw [c, upI_same]
      refine List.nodup_append.mpr ⟨w.nd _ hv, by simp, fun a ha b hb e => ?_⟩
      rw [List.mem_singleton] at hb
      exact old _ hv (by rw [← hb, ← e]; exact ha)
    · rw [upI_ne c]
      by_cases c2 : j = nw + 1
      · rw [c2, upI_same]; exact List.nodup_nil
      · rw [upI_ne c2]
        rcases List.mem_append.mp hj with hj | hj
        · exact w.nd j hj
        · exact (c2 (List.mem_singleton.mp hj)).elim
  · show i ∈ upI (upI P.c (nw + 1) []) v.par (P.c v.par ++ [nw + 1]) j ↔ i ∈ P.kf ++ [nw + 1] ∧ (upI P.f (nw + 1) v i).par = j
    have e1 : i ∈ P.kf ++ [nw + 1] ∧ (upI P.f (nw + 1) v i).par = j ↔ (i ∈ P.kf ∧ (P.f i).par = j) ∨ (i = nw + 1 ∧ v.par = j) := by
      rw [List.mem_append, List.mem_singleton]
      constructor
      · rintro ⟨h | h, h2⟩
        · rw [fo i h] at h2; exact .inl ⟨h, h2⟩
        · rw [h, upI_same] at h2; exact .inr ⟨h, h2⟩
      · rintro (⟨h, h2⟩ | ⟨h, h2⟩)
        · exact ⟨.inl h, by rw [fo i h]; exact h2⟩
        · exact ⟨.inr h, by rw [h, upI_same]; exact h2⟩
    rw [e1]
    by_cases c : j = v.par
    · subst c
      rw [upI_same, List.mem_append, List.mem_singleton, w.ch _ hv i]
      exact ⟨fun h => h.imp id fun h => ⟨h, rfl⟩, fun h => h.imp id fun h => h.1⟩
    · rw [upI_ne c]
      by_cases c2 : j = nw + 1
      · subst c2
        rw [upI_same]
        refine ⟨fun h => (by cases h), ?_⟩
        rintro (⟨h, h2⟩ | ⟨h, h2⟩)
        · have := w.par i h
          rw [h2] at this
          exact (nl this).elim
        · exact (c h2.symm).elim
      · rw [upI_ne c2]
        have hj' : j ∈ P.kl := by
          rcases List.mem_append.mp hj with hj | hj
          · exact hj
          · exact (c2 (List.mem_singleton.mp hj)).elim
        rw [w.ch j hj' i]
        exact ⟨.inl, fun h => h.elim id fun ⟨_, h2⟩ => (c h2.symm).elim⟩
theorem PWf.opInto {P : PS} {nw : Int} {d : Int → Nat} (w : PWf P nw d) {k p : Int} (hk : k ∈ P.kf) (hp : p ∈ P.kl) (hc : k ∉ chn P (d p) p) : ∃ d', PWf (opInto P k p) nw d' := by
  have hq := w.par k hk
  have hkq : k ∈ P.c (P.f k).par := (w.ch _ hq k).mpr ⟨hk, rfl⟩
  refine ⟨fun j => if k ∈ chn P (d j) j then d j - d k + d p + 1 else d j, ?_⟩
  have par' : ∀ j, ((M3.opInto P k p).f j).par = if j = k then p else (P.f j).par := fun j => by
    show (upI P.f k { P.f k with par := p } j).par = _
    by_cases c : j = k
    · rw [c, upI_same, if_pos rfl]
    · rw [upI_ne c, if_neg c]
  have c' : ∀ j, (M3.opInto P k p).c j = upI (upI P.c (P.f k).par (rmv k (P.c (P.f k).par))) p (upI P.c (P.f k).par (rmv k (P.c (P.f k).par)) p ++ [k]) j := fun j => rfl
  have rm : ∀ {i}, i ∈ rmv k (P.c (P.f k).par) ↔ i ∈ P.c (P.f k).par ∧ i ≠ k := fun {i} => rmv_mem (w.nd _ hq)
  have m1 : ∀ j ∈ P.kl, (∀ i, i ∈ upI P.c (P.f k).par (rmv k (P.c (P.f k).par)) j ↔ i ∈ P.kf ∧ (P.f i).par = j ∧ i ≠ k) ∧ (upI P.c (P.f k).par (rmv k (P.c (P.f k).par)) j).Nodup := fun j hj => by
    by_cases c : j = (P.f k).par
    · subst c
      rw [upI_same]
      refine ⟨fun i => ?_, rmv_nd (w.nd _ hq)⟩
      rw [rm, w.ch _ hq i]
      exact ⟨fun ⟨⟨a, b⟩, c⟩ => ⟨a, b, c⟩, fun ⟨a, b, c⟩ => ⟨⟨a, b⟩, c⟩⟩
    · rw [upI_ne c]
      refine ⟨fun i => ?_, w.nd j hj⟩
      rw [w.ch j hj i]
      exact ⟨fun ⟨a, b⟩ => ⟨a, b, fun e => c (by rw [← b, e])⟩, fun ⟨a, b, _⟩ => ⟨a, b⟩⟩
  have z0 : (0 : Int) ∈ P.kl := by rw [w.kl]; exact List.mem_cons_self ..
  refine ⟨w.kl, w.inc, w.pos, fun j hj => ?_, ?_, fun j hj => ?_, fun j hj => ?_, fun j hj i => ?_, w.n0⟩
  · rw [par']; split
    · exact hp
    · exact w.par j hj
  · show (if k ∈ chn P (d 0) 0 then _ else d 0) = 0
    rw [w.chn_0, if_neg (by simp), w.d0]
  · show (if k ∈ chn P (d j) j then d j - d k + d p + 1 else d j) = (if k ∈ chn P (d ((M3.opInto P k p).f j).par) ((M3.opInto P k p).f j).par then _ else _) + 1
    rw [par']
    have hs := w.dS j hj
    have hst := w.chn_step hj
    by_cases c : j = k
    · subst c
      rw [if_pos rfl, if_neg hc, if_pos (by rw [hst]; exact List.mem_cons_self ..)]
      omega
    · rw [if_neg c]
      have iff1 : k ∈ chn P (d j) j ↔ k ∈ chn P (d (P.f j).par) (P.f j).par := by
        rw [hst, List.mem_cons]
        exact ⟨fun h => h.elim (fun e => (c e.symm).elim) id, .inr⟩
      by_cases c2 : k ∈ chn P (d (P.f j).par) (P.f j).par
      · rw [if_pos (iff1.mpr c2), if_pos c2]
        have := (w.chn_le (w.par j hj) c2).2
        omega
      · rw [if_neg (fun z => c2 (iff1.mp z)), if_neg c2]; exact hs
  · rw [c']
    by_cases c : j = p
    · subst c
      rw [upI_same]
      obtain ⟨a, b⟩ := m1 j hp
      refine List.nodup_append.mpr ⟨b, by simp, fun x hx y hy e => ?_⟩
      rw [List.mem_singleton] at hy
      exact ((a x).mp hx).2.2 (by rw [e, hy])
    · rw [upI_ne c]; exact (m1 j hj).2
  · rw [c', par']
    by_cases c : j = p
    · subst c
      rw [upI_same, List.mem_append, List.mem_singleton, (m1 j hp).1]
      by_cases ci : i = k
      · subst ci
        rw [if_pos rfl]
        exact ⟨fun _ => ⟨hk, rfl⟩, fun _ => .inr rfl⟩
      · rw [if_neg ci]
        exact ⟨fun h => h.elim (fun ⟨a, b, _⟩ => ⟨a, b⟩) (fun e => (ci e).elim), fun ⟨a, b⟩ => .inl ⟨a, b, ci⟩⟩
    · rw [upI_ne c, (m1 j hj).1]
      by_cases ci : i = k
      · subst ci
        rw [if_pos rfl]
        exact ⟨fun ⟨_, _, h⟩ => (h rfl).elim, fun ⟨_, h⟩ => (c h.symm).elim⟩
      · rw [if_neg ci]
        exact ⟨fun ⟨a, b, _⟩ => ⟨a, b⟩, fun ⟨a, b⟩ => ⟨a, b, ci⟩⟩
theorem PWf.opGo {P : PS} {nw : Int} {d : Int → Nat} (w : PWf P nw d) {k : Int} (hk : k ∈ P.kf) : PWf (opGo P d k) nw d := by
  have hq := w.par k hk
  have z0 : (0 : Int) ∈ P.kl := by rw [w.kl]; exact List.mem_cons_self ..
  have fm : ∀ {j}, j ∈ (M3.opGo P d k).kf ↔ j ∈ P.kf ∧ k ∉ chn P (d j) j := fun {j} => by
    show j ∈ P.kf.filter _ ↔ _
    rw [List.mem_filter, decide_eq_true_iff]
  have lm : ∀ {j}, j ∈ (M3.opGo P d k).kl ↔ j ∈ P.kl ∧ k ∉ chn P (d j) j := fun {j} => by
    show j ∈ P.kl.filter _ ↔ _
    rw [List.mem_filter, decide_eq_true_iff]
  have up : ∀ {j}, j ∈ P.kf → k ∉ chn P (d j) j → k ∉ chn P (d (P.f j).par) (P.f j).par := fun {j} hj h z => h (by rw [w.chn_step hj]; exact List.mem_cons_of_mem _ z)
  have m1 : ∀ j ∈ P.kl, (∀ i, i ∈ upI P.c (P.f k).par (rmv k (P.c (P.f k).par)) j ↔ i ∈ P.kf ∧ (P.f i).par = j ∧ i ≠ k) ∧ (upI P.c (P.f k).par (rmv k (P.c (P.f k).par)) j).Nodup := fun j hj => by
    by_cases c : j = (P.f k).par
    · subst c
      rw [upI_same]
      refine ⟨fun i => ?_, rmv_nd (w.nd _ hq)⟩
      rw [rmv_mem (w.nd _ hq), w.ch _ hq i]
      exact ⟨fun ⟨⟨a, b⟩, c⟩ => ⟨a, b, c⟩, fun ⟨a, b, c⟩ => ⟨⟨a, b⟩, c⟩⟩
    · rw [upI_ne c]
      refine ⟨fun i => ?_, w.nd j hj⟩
      rw [w.ch j hj i]
      exact ⟨fun ⟨a, b⟩ => ⟨a, b, fun e => c (by rw [← b, e])⟩, fun ⟨a, b, _⟩ => ⟨a, b⟩⟩
  refine ⟨?_, ?_, fun j hj => w.pos j (fm.mp hj).1, fun j hj => ?_, w.d0, fun j hj => w.dS j (fm.mp hj).1, fun j hj => (m1 j (lm.mp hj).1).2, fun j hj i => ?_, w.n0⟩
  · show P.kl.filter _ = 0 :: P.kf.filter _
    rw [w.kl, List.filter_cons, if_pos (by rw [w.chn_0]; simp)]
  · exact w.inc.filter _
  · obtain ⟨a, b⟩ := fm.mp hj
    exact lm.mpr ⟨w.par j a, up a b⟩
  · obtain ⟨a, b⟩ := lm.mp hj
    show i ∈ upI P.c (P.f k).par (rmv k (P.c (P.f k).par)) j ↔ _
    rw [(m1 j a).1, fm]
    constructor
    · rintro ⟨h1, h2, h3⟩
      refine ⟨⟨h1, fun z => ?_⟩, h2⟩
      rw [w.chn_step h1, List.mem_cons, h2] at z
      exact z.elim (fun e => h3 e.symm) b
    · rintro ⟨⟨h1, h2⟩, h3⟩
      exact ⟨h1, h3, fun e => h2 (by rw [e, w.chn_step hk]; exact List.mem_cons_self ..)⟩
theorem PWf.op {P : PS} {nw : Int} {d : Int → Nat} (w : PWf P nw d) {many : Nat} {row : PRow} (h : row.bad P d many = none) : ∃ d', PWf (row.op P d nw) (row.nw nw) d' := by
  have ifk : ∀ {k : Int} {a : Option Nat}, (if k ∉ P.kf then some 4 else a) = none → k ∈ P.kf ∧ a = none := fun {k a} h => by
    by_cases c : k ∈ P.kf
    · rw [if_neg (fun z => z c)] at h; exact ⟨c, h⟩
    · rw [if_pos c] at h; cases h
  have ifl : ∀ {k : Int} {a : Option Nat}, (if k ∉ P.kl then some 4 else a) = none → k ∈ P.kl ∧ a = none := fun {k a} h => by
    by_cases c : k ∈ P.kl
    · rw [if_neg (fun z => z c)] at h; exact ⟨c, h⟩
    · rw [if_pos c] at h; cases h
  have keep : ∀ {k : Int} (hk : k ∈ P.kf) {l : List Int}, l.Nodup → (∀ j, j ∈ l ↔ j ∈ rmv k (P.c (P.f k).par) ∨ j = k) → ∃ d', PWf (M3.opC P (P.f k).par l) nw d' := fun {k} hk {l} hl hm => by
    have hq := w.par k hk
    refine ⟨d, w.opC hl fun _ j => ?_⟩
    rw [hm, rmv_mem (w.nd _ hq)]
    by_cases c : j = k
    · subst c
      exact ⟨fun _ => (w.ch _ hq j).mpr ⟨hk, rfl⟩, fun _ => .inr rfl⟩
    · exact ⟨fun h => h.elim (·.1) fun e => (c e).elim, fun h => .inl ⟨h, c⟩⟩
  have nk : ∀ {k : Int}, k ∈ P.kf → k ∉ rmv k (P.c (P.f k).par) := fun {k} hk z => ((rmv_mem (w.nd _ (w.par k hk))).mp z).2 rfl
  have nd : ∀ {k : Int}, k ∈ P.kf → (rmv k (P.c (P.f k).par)).Nodup := fun {k} hk => rmv_nd (w.nd _ (w.par k hk))
  cases row with
  | «open» p s x y w' h' => exact ⟨_, w.opOpen (v := ⟨p, s, x, y, w', h', 0, 0, false⟩) (ifl h).1⟩
  | move k x y => exact ⟨d, w.opF rfl⟩
  | resize k x y => exact ⟨d, w.opF rfl⟩
  | scroll k x y => exact ⟨d, w.opF rfl⟩
  | turn k s => exact ⟨d, w.opF rfl⟩
  | hide k => exact ⟨d, w.opF rfl⟩
  | «show» k => exact ⟨d, w.opF rfl⟩
  | lift k =>
    have hk := (ifk h).1
    refine keep hk (List.nodup_append.mpr ⟨nd hk, by simp, fun a ha b hb e => ?_⟩) fun j => by rw [List.mem_append, List.mem_singleton]
    rw [List.mem_singleton] at hb
    have ek : a = k := e.trans hb
    exact nk hk (ek ▸ ha)
  | sink k =>
    have hk := (ifk h).1
    exact keep hk (List.nodup_cons.mpr ⟨nk hk, nd hk⟩) fun j => by rw [List.mem_cons]; exact or_comm
  | over k b =>
    obtain ⟨hk, h⟩ := ifk h
    obtain ⟨hb, h⟩ := ifk h
    have hn : ¬ ((P.f b).par ≠ (P.f k).par ∨ b = k) := fun z => by rw [if_pos z] at h; cases h
    have hbc : b ∈ rmv k (P.c (P.f k).par) := (rmv_mem (w.nd _ (w.par k hk))).mpr ⟨(w.ch _ (w.par k hk) b).mpr ⟨hb, Classical.not_not.mp fun z => hn (.inl z)⟩, fun z => hn (.inr z)⟩
    exact keep hk (insA_nd (nd hk) (nk hk)) fun j => insA_mem hbc
  | into k p =>
    obtain ⟨hk, h⟩ := ifk h
    obtain ⟨hp, h⟩ := ifl h
    exact w.opInto hk hp fun z => by rw [if_pos z] at h; cases h
  | go k => exact ⟨d, w.opGo (ifk h).1⟩
  | told k => exact ⟨d, w⟩
  | inside k => exact ⟨d, w⟩
  | next => exact ⟨d, w⟩
  | all => exact ⟨d, w⟩
def boxesOf (k : Nat) (ds : List (Int × Int × Int × Int × Int)) : List Bx := (ds.filter fun d => decide (d.1 = (k : Int))).map (·.2)
inductive Row where
  | make (w h : Int) (c : Str)
  | write (n x y : Int) (t : Str)
  | fill (n x y w h : Int) (c : Str)
  | size (n : Int)
  | sign (n x y : Int)
  | rows (n : Int)
  | met (n c : Int)
  | written
  | many
def Row.ok : Row → Prop
  | .write _ _ _ t => t.length ≤ 1000000
  | _ => True
def Out (cl : Nat → Addr) (s : Addr) (H : Shs) (F : Fp) (S : Sto) (Q : WQ) (X : XQ) : Row → Prop
  | .make w h c => ((1 ≤ w ∧ w ≤ 60 ∧ 1 ≤ h ∧ h ≤ 60) → ∀ F' S', ShAt cl S' s ⟨H.gr ++ [mkG w h c], H.dd⟩ F' → Own F S F' S' → Q (.int H.gr.length) S') ∧ (¬ (1 ≤ w ∧ w ≤ 60 ∧ 1 ≤ h ∧ h ≤ 60) → X (cl 1) S)
  | .write n x y t => (∀ (k : Nat) (g : Gr), n = k → H.gr[k]? = some g → ∀ g' S', IsP g (wF x y t) g' → ShAt cl S' s ⟨H.gr.set k g', H.dd ++ [dOf k g x y t.length 1]⟩ F → Own F S F S' → Q .non S') ∧ ((n < 0 ∨ (H.gr.length : Int) ≤ n) → X (cl 2) S)
  | .fill n x y w h c => (∀ (k : Nat) (g : Gr), n = k → H.gr[k]? = some g → ∀ g' S', IsP g (fF x y w h c) g' → ShAt cl S' s ⟨H.gr.set k g', H.dd ++ [dOf k g x y w h]⟩ F → Own F S F S' → Q .non S') ∧ ((n < 0 ∨ (H.gr.length : Int) ≤ n) → X (cl 2) S)
  | .size n => (∀ (k : Nat) (g : Gr), n = k → H.gr[k]? = some g → Q (szW g) S) ∧ ((n < 0 ∨ (H.gr.length : Int) ≤ n) → X (cl 2) S)
  | .sign n x y => (∀ (k : Nat) (g : Gr), n = k → H.gr[k]? = some g → Q (.str (gAt g x y)) S) ∧ ((n < 0 ∨ (H.gr.length : Int) ≤ n) → X (cl 2) S)
  | .rows n => (∀ (k : Nat) (g : Gr), n = k → H.gr[k]? = some g → ∀ q S', Sub S S' → S q = none → S' q = some (.lst (g.map fun r => .str (txt r))) → Q (.ref q) S') ∧ ((n < 0 ∨ (H.gr.length : Int) ≤ n) → X (cl 2) S)
  | .met n c => (∀ (k : Nat) (g : Gr) (i : Nat), n = k → H.gr[k]? = some g → c = i → i ≤ H.dd.length → ∀ r, IsReg (boxesOf k (H.dd.drop i)) r → Q (rgW r) S) ∧
    (∀ (k : Nat) (g : Gr), n = k → H.gr[k]? = some g → (c < 0 ∨ (H.dd.length : Int) < c) → X (cl 3) S) ∧ ((n < 0 ∨ (H.gr.length : Int) ≤ n) → X (cl 2) S)
  | .written => Q (.int H.dd.length) S
  | .many => Q (.int H.gr.length) S
theorem Out.mono {cl : Nat → Addr} {s : Addr} {H : Shs} {F : Fp} {S : Sto} {Q Q' : WQ} {X X' : XQ} {row : Row} (hq : ∀ w S, Q w S → Q' w S) (hx : ∀ C S, X C S → X' C S) (h : Out cl s H F S Q X row) : Out cl s H F S Q' X' row := by
  cases row with
  | make w h' c => exact ⟨fun a b d e f => hq _ _ (h.1 a b d e f), fun a => hx _ _ (h.2 a)⟩
  | write n x y t => exact ⟨fun a b d e f g i j k => hq _ _ (h.1 a b d e f g i j k), fun a => hx _ _ (h.2 a)⟩
  | fill n x y w h' c => exact ⟨fun a b d e f g i j k => hq _ _ (h.1 a b d e f g i j k), fun a => hx _ _ (h.2 a)⟩
  | size n => exact ⟨fun a b d e => hq _ _ (h.1 a b d e), fun a => hx _ _ (h.2 a)⟩
  | sign n x y => exact ⟨fun a b d e => hq _ _ (h.1 a b d e), fun a => hx _ _ (h.2 a)⟩
  | rows n => exact ⟨fun a b d e f g i j k => hq _ _ (h.1 a b d e f g i j k), fun a => hx _ _ (h.2 a)⟩
  | met n c => exact ⟨fun a b d e f g i j k => hq _ _ (h.1 a b d e f g i j k), fun a b c d e => hx _ _ (h.2.1 a b c d e), fun a => hx _ _ (h.2.2 a)⟩
  | written => exact hq _ _ h
  | many => exact hq _ _ h
theorem POut.mono {cl : Nat → Addr} {S : Sto} {ad : PR → Addr} {s : Addr} {nw : Int} {P : PS} {d : Int → Nat} {many : Nat} {Q Q' : WQ} {X X' : XQ} {row : PRow} (hq : ∀ w S, Q w S → Q' w S) (hx : ∀ C S, X C S → X' C S) (h : POut cl S ad s nw P d many Q X row) : POut cl S ad s nw P d many Q' X' row := by
  refine POut.of (fun e => ?_) fun n e => hx _ _ (h.bad e)
  have := h.good e
  cases row with
  | told k => exact hq _ _ this
  | inside k => exact fun q h => hq _ _ (this q h)
  | all => exact fun q h => hq _ _ (this q h)
  | next => exact hq _ _ this
  | _ => exact fun ad' S' a b c => hq _ _ (this ad' S' a b c)
def stH (nxt many : Int) : Addr → Addr → MO := fun a b => .dk false [((Sum.inr ("facts" : Str) : Key), .ref a), (Sum.inr ("lists" : Str), .ref b), (Sum.inr ("next" : Str), .int nxt), (Sum.inr ("many" : Str), .int many)]
def PRow.isDeed : PRow → Prop
  | .told _ => False
  | .inside _ => False
  | .next => False
  | .all => False
  | _ => True
def PRow.due (nw : Int) : PRow → W
  | .open _ _ _ _ _ _ => .int (nw + 1)
  | _ => .non
theorem ms2 : (decide ((Sum.inr ("move" : Str) : Key) = Sum.inr ("resize" : Str))) = false := by decide +kernel
theorem opF_opF {P : PS} {k : Int} {u v : Fc} : opF (opF P k u) k v = opF P k v := by
  unfold opF
  dsimp only
  congr 1
  funext i
  unfold upI
  split <;> rfl
theorem PCtx.sub {cl : Nat → Addr} {S S' : Sto} {ad : PR → Addr} {s : Addr} {nw : Int} {P : PS} {d : Int → Nat} {many : Nat} (h : PCtx cl S ad s nw P d many) (k : Sub S S') : PCtx cl S' ad s nw P d many := by
  obtain ⟨H, F, a, b⟩ := h.sh
  exact ⟨h.lay.subP k, h.wf, h.len, ⟨H, F, a.sub k, b⟩, h.mn⟩
theorem Reps.tup {S : Sto} {n : Nat} {ts : List Tr} {ws : List W} (h : Reps S n ts ws) (hl : ts.length ≤ 1000000) : RepT S (n + 1) (.tup ts) (.tup ws) := by
  unfold RepT
  exact ⟨ws, rfl, h.1, hl, h.2⟩
def sp_law_all_told (cl : Nat → Addr) : MSp := fun ws S Q _ => ∃ (p : Addr) (o : MO) (m : Nat) (aP aS : PR → Addr) (s : Addr) (nw mny : Int) (P : PS) (d : Int → Nat) (many : Nat), ws = [.ref p, .ref (aP .obj), .ref (aS .obj)] ∧ S p = some o ∧ Bag m o ∧ m ≤ 8000000 ∧ (∀ o', PCtx cl (put S p o') aP s nw P d many) ∧ (∀ o', PLay (put S p o') (stH (nw + 1) mny) P aS) ∧
  ∀ o', Bag (m + 1) o' → Q (.bl true) (put S p o')
structure PEq (P P' : PS) : Prop where
  kf : P'.kf = P.kf
  kl : P'.kl = P.kl
  f : ∀ k ∈ P.kf, P'.f k = P.f k
  c : ∀ k ∈ P.kl, P'.c k = P.c k
theorem PEq.refl (P : PS) : PEq P P := ⟨rfl, rfl, fun _ _ => rfl, fun _ _ => rfl⟩
theorem PEq.of {P P' : PS} (h : P = P') : PEq P P' := h ▸ PEq.refl P
theorem PEq.wf {P P' : PS} {nw : Int} {d : Int → Nat} (e : PEq P P') (w : PWf P nw d) : PWf P' nw d := by
  refine ⟨by rw [e.kl, e.kf]; exact w.kl, by rw [e.kf]; exact w.inc, by rw [e.kf]; exact w.pos, fun k hk => ?_, w.d0, fun k hk => ?_, fun k hk => ?_, fun k hk j => ?_, w.n0⟩
  · rw [e.kf] at hk; rw [e.f k hk, e.kl]; exact w.par k hk
  · rw [e.kf] at hk; rw [e.f k hk]; exact w.dS k hk
  · rw [e.kl] at hk; rw [e.c k hk]; exact w.nd k hk
  · rw [e.kl] at hk
    rw [e.c k hk, w.ch k hk j, e.kf]
    exact and_congr_right fun hj => by rw [e.f j hj]
theorem PEq.lay {S : Sto} {hd : Addr → Addr → MO} {P P' : PS} {ad : PR → Addr} (e : PEq P P') (l : PLay S hd P ad) : PLay S hd P' ad := by
  have ok : ∀ x, P'.ok x → P.ok x := fun x hx => by
    cases x with
    | fact k => show k ∈ P.kf; rw [← e.kf]; exact hx
    | list k => show k ∈ P.kl; rw [← e.kl]; exact hx
    | _ => trivial
  refine ⟨fun x hx => ?_, fun x y hx hy h => l.inj x y (ok x hx) (ok y hy) h⟩
  rw [l.at_ x (ok x hx)]
  cases x with
  | obj => rfl
  | facts => show some (dkF ad P.kf) = some (dkF ad P'.kf); rw [e.kf]
  | lists => show some (dkL ad P.kl) = some (dkL ad P'.kl); rw [e.kl]
  | fact k => show some (MO.lst (fcL (P.f k))) = some (MO.lst (fcL (P'.f k))); rw [e.f k (ok (.fact k) hx)]
  | list k => show some (MO.lst ((P.c k).map W.int)) = some (MO.lst ((P'.c k).map W.int)); rw [e.c k (ok (.list k) hx)]
theorem PEq.fp {P P' : PS} {ad : PR → Addr} (e : PEq P P') {q : Addr} : P'.fp ad q ↔ P.fp ad q := by
  constructor
  · rintro ⟨x, hx, h⟩
    refine ⟨x, ?_, h⟩
    cases x with
    | fact k => show k ∈ P.kf; rw [← e.kf]; exact hx
    | list k => show k ∈ P.kl; rw [← e.kl]; exact hx
    | _ => trivial
  · rintro ⟨x, hx, h⟩
    refine ⟨x, ?_, h⟩
    cases x with
    | fact k => show k ∈ P'.kf; rw [e.kf]; exact hx
    | list k => show k ∈ P'.kl; rw [e.kl]; exact hx
    | _ => trivial
def PV (P : PS) (many : Int) : Prop := ∀ k ∈ P.kf, 0 ≤ (P.f k).sh ∧ (P.f k).sh < many ∧ 1 ≤ (P.f k).w ∧ 1 ≤ (P.f k).h
theorem PV.eq {P P' : PS} {many : Int} (h : PV P many) (e : PEq P P') : PV P' many := fun k hk => by
  rw [e.kf] at hk; rw [e.f k hk]; exact h k hk
theorem PV.opF {P : PS} {many k : Int} {v : Fc} (h : PV P many) (hv : 0 ≤ v.sh ∧ v.sh < many ∧ 1 ≤ v.w ∧ 1 ≤ v.h) : PV (opF P k v) many := fun j hj => by
  show 0 ≤ (upI P.f k v j).sh ∧ _
  by_cases c : j = k
  · rw [c]; show 0 ≤ (upI P.f k v k).sh ∧ (upI P.f k v k).sh < many ∧ 1 ≤ (upI P.f k v k).w ∧ 1 ≤ (upI P.f k v k).h
    rw [upI_same]; exact hv
  · have := h j hj
    show 0 ≤ (upI P.f k v j).sh ∧ (upI P.f k v j).sh < many ∧ 1 ≤ (upI P.f k v j).w ∧ 1 ≤ (upI P.f k v j).h
    rw [upI_ne c]; exact this
theorem PV.op {P : PS} {nw many : Int} {d : Int → Nat} {row : PRow} (w : PWf P nw d) (h : PV P many) (hb : row.bad P d many = none) : PV (row.op P d nw) many := by
  have ifk : ∀ {k : Int} {a : Option Nat}, (if k ∉ P.kf then some 4 else a) = none → k ∈ P.kf ∧ a = none := fun {k a} h => by
    by_cases c : k ∈ P.kf
    · rw [if_neg (fun z => z c)] at h; exact ⟨c, h⟩
    · rw [if_pos c] at h; cases h
  cases row with
  | «open» p s x y w' h' =>
    have nf : nw + 1 ∉ P.kf := fun z => by have := (w.pos _ z).2; omega
    simp only [PRow.bad] at hb
    split at hb
    · cases hb
    · split at hb
      · cases hb
      · split at hb
        · cases hb
        · intro j hj
          rcases List.mem_append.mp hj with hj | hj
          · show 0 ≤ (upI P.f (nw + 1) ⟨p, s, x, y, w', h', 0, 0, false⟩ j).sh ∧ (upI P.f (nw + 1) ⟨p, s, x, y, w', h', 0, 0, false⟩ j).sh < many ∧ 1 ≤ (upI P.f (nw + 1) ⟨p, s, x, y, w', h', 0, 0, false⟩ j).w ∧ 1 ≤ (upI P.f (nw + 1) ⟨p, s, x, y, w', h', 0, 0, false⟩ j).h
            rw [upI_ne (fun e : j = nw + 1 => nf (e ▸ hj))]
            exact h j hj
          · rw [List.mem_singleton.mp hj]
            show 0 ≤ (upI P.f (nw + 1) ⟨p, s, x, y, w', h', 0, 0, false⟩ (nw + 1)).sh ∧ (upI P.f (nw + 1) ⟨p, s, x, y, w', h', 0, 0, false⟩ (nw + 1)).sh < many ∧ 1 ≤ (upI P.f (nw + 1) ⟨p, s, x, y, w', h', 0, 0, false⟩ (nw + 1)).w ∧ 1 ≤ (upI P.f (nw + 1) ⟨p, s, x, y, w', h', 0, 0, false⟩ (nw + 1)).h
            rw [upI_same]
            refine ⟨?_, ?_, ?_, ?_⟩ <;> simp only <;> omega
  | move k x y => exact h.opF (h k (ifk hb).1)
  | resize k x y =>
    obtain ⟨hk, hb⟩ := ifk hb
    have := h k hk
    refine h.opF ⟨this.1, this.2.1, ?_, ?_⟩
    · show 1 ≤ x
      by_cases c : x < 1 ∨ y < 1
      · rw [if_pos c] at hb; cases hb
      · omega
    · show 1 ≤ y
      by_cases c : x < 1 ∨ y < 1
      · rw [if_pos c] at hb; cases hb
      · omega
  | scroll k x y => exact h.opF (h k (ifk hb).1)
  | turn k s =>
    obtain ⟨hk, hb⟩ := ifk hb
    have := h k hk
    have c : ¬ (s < 0 ∨ many ≤ s) := fun c => by rw [if_pos c] at hb; cases hb
    refine h.opF ⟨?_, ?_, this.2.2.1, this.2.2.2⟩
    · show 0 ≤ s; omega
    · show s < many; omega
  | hide k => exact h.opF (h k (ifk hb).1)
  | «show» k => exact h.opF (h k (ifk hb).1)
  | lift k => exact h
  | sink k => exact h
  | over k b => exact h
  | into k p => exact PV.opF (P := opC (opC P (P.f k).par (rmv k (P.c (P.f k).par))) p ((opC P (P.f k).par (rmv k (P.c (P.f k).par))).c p ++ [k])) h (h k (ifk hb).1)
  | go k => exact fun j hj => h j (List.mem_filter.mp hj).1
  | told k => exact h
  | inside k => exact h
  | next => exact h
  | all => exact h
def PRow.isBack : PRow → Prop
  | .open _ _ _ _ _ _ => False
  | .told _ => False
  | .inside _ => False
  | .next => False
  | .all => False
  | _ => True
def Undoes (many : Int) (P0 : PS) : PS → List PRow → Prop
  | P, [] => P = P0
  | P, u :: us => ∃ P2, u.isBack ∧ (∀ nw d, PWf P nw d → u.bad P d many = none ∧ PEq (u.op P d nw) P2) ∧ Undoes many P0 P2 us
theorem Undoes.app {many : Int} {P0 P1 : PS} : ∀ {us : List PRow} {P : PS} {vs : List PRow}, Undoes many P1 P us → Undoes many P0 P1 vs → Undoes many P0 P (us ++ vs)
  | [], P, vs, h1, h2 => by rw [show P = P1 from h1]; exact h2
  | u :: us, P, vs, ⟨P2, a, b, c⟩, h2 => ⟨P2, a, b, Undoes.app c h2⟩
theorem PEq.symm {P P' : PS} (e : PEq P P') : PEq P' P := ⟨e.kf.symm, e.kl.symm, fun k hk => (e.f k (by rw [← e.kf]; exact hk)).symm, fun k hk => (e.c k (by rw [← e.kl]; exact hk)).symm⟩
structure JP (cl : Nat → Addr) (S0 S : Sto) (aP aS : PR → Addr) (s : Addr) (nw : Int) (P : PS) (d : Int → Nat) (nw2 : Int) (P2 : PS) (d2 : Int → Nat) (H : Shs) (F : Fp) : Prop where
  sub : Sub S0 S
  pn : PLay S (pnH cl s nw) P aP
  st : PLay S (stH (nw2 + 1) H.gr.length) P2 aS
  sh : ShAt cl S s H F
  wf : PWf P nw d
  wf2 : PWf P2 nw2 d2
  gok : ∀ g ∈ H.gr, GOk g
  d1 : ∀ q, P.fp aP q → ¬ P2.fp aS q
  d2 : ∀ q, P.fp aP q → ¬ F q
  d3 : ∀ q, P2.fp aS q → ¬ F q
  z1 : ∀ q, P.fp aP q → S0 q = none
  z2 : ∀ q, P2.fp aS q → S0 q = none
  z3 : ∀ q, F q → S0 q = none
section
variable {cl : Nat → Addr} {S0 S S' : Sto} {aP aS aP' aS' : PR → Addr} {s p : Addr} {nw nw2 nw' : Int} {P P2 P' : PS} {d d2 d' : Int → Nat} {H H' : Shs} {F F' : Fp} {o : MO}
theorem JP.less (j : JP cl S0 S aP aS s nw P d nw2 P2 d2 H F) (k : Sub S S') : JP cl S0 S' aP aS s nw P d nw2 P2 d2 H F :=
  ⟨j.sub.trans k, j.pn.subP k, j.st.subP k, j.sh.sub k, j.wf, j.wf2, j.gok, j.d1, j.d2, j.d3, j.z1, j.z2, j.z3⟩
structure NP (S0 : Sto) (aP aS : PR → Addr) (P P2 : PS) (F : Fp) (p : Addr) : Prop where
  P : ¬ P.fp aP p
  S : ¬ P2.fp aS p
  F : ¬ F p
  z : S0 p = none
theorem JP.new (j : JP cl S0 S aP aS s nw P d nw2 P2 d2 H F) (h : S p = none) : NP S0 aP aS P P2 F p := ⟨j.pn.not h, j.st.not h, j.sh.not h, j.sub.none h⟩
theorem JP.put (j : JP cl S0 S aP aS s nw P d nw2 P2 d2 H F) (n : NP S0 aP aS P P2 F p) : JP cl S0 (M3.put S p o) aP aS s nw P d nw2 P2 d2 H F :=
  ⟨j.sub.upd n.z, j.pn.putP n.P, j.st.putP n.S, j.sh.put n.F, j.wf, j.wf2, j.gok, j.d1, j.d2, j.d3, j.z1, j.z2, j.z3⟩
theorem JP.ctx (j : JP cl S0 S aP aS s nw P d nw2 P2 d2 H F) (hl : P.kf.length ≤ 62) (hm : H.gr.length ≤ 1000) : PCtx cl S aP s nw P d H.gr.length := ⟨j.pn, j.wf, hl, ⟨H, F, j.sh, rfl⟩, hm⟩
theorem JP.done (j : JP cl S0 S aP aS s nw P d nw2 P2 d2 H F) (l' : PLay S' (stH (nw' + 1) H.gr.length) P' aS') (w' : PWf P' nw' d') (ow : Own (P2.fp aS) S (P'.fp aS') S') : JP cl S0 S' aP aS' s nw P d nw' P' d' H F := by
  have b := ow.base j.sub j.z2
  refine ⟨b.1, j.pn.ownP ow j.d1, l', j.sh.own ow fun q h1 h2 => j.d3 q h2 h1, j.wf, w', j.gok, fun q h1 h2 => ?_, j.d2, fun q h1 h2 => ?_, j.z1, b.2, j.z3⟩
  · rcases ow.nw q h2 with z | z
    · exact j.d1 q h1 z
    · exact j.pn.known h1 z
  · rcases ow.nw q h1 with z | z
    · exact j.d3 q z h2
    · exact j.sh.known h2 z
theorem JP.call (j : JP cl S0 S aP aS s nw P d nw2 P2 d2 H F) (l' : PLay S' (pnH cl s nw') P' aP') (w' : PWf P' nw' d') (ow : Own (P.fp aP) S (P'.fp aP') S') : JP cl S0 S' aP' aS s nw' P' d' nw2 P2 d2 H F := by
  have b := ow.base j.sub j.z1
  refine ⟨b.1, l', j.st.ownP ow fun q h1 h2 => j.d1 q h2 h1, j.sh.own ow fun q h1 h2 => j.d2 q h2 h1, w', j.wf2, j.gok, fun q h1 h2 => ?_, fun q h1 h2 => ?_, j.d3, b.2, j.z2, j.z3⟩
  · rcases ow.nw q h1 with z | z
    · exact j.d1 q z h2
    · exact j.st.known h2 z
  · rcases ow.nw q h1 with z | z
    · exact j.d2 q z h2
    · exact j.sh.known h2 z
theorem JP.sheet (j : JP cl S0 S aP aS s nw P d nw2 P2 d2 H F) (sh' : ShAt cl S' s H' F') (ow : Own F S F' S') (g' : ∀ g ∈ H'.gr, GOk g) : Sub S0 S' ∧ PLay S' (pnH cl s nw) P aP ∧ PLay S' (stH (nw2 + 1) H.gr.length) P2 aS ∧ (PLay S' (stH (nw2 + 1) H.gr.length) P2 aS → JP cl S0 (M3.put S' (aS .obj) (stH (nw2 + 1) H'.gr.length (aS .facts) (aS .lists))) aP aS s nw P d nw2 P2 d2 H' F') := by
  have b := ow.base j.sub j.z3
  have pn' := j.pn.ownP ow j.d2
  have st' := j.st.ownP ow j.d3
  have dF : ∀ q, P.fp aP q → ¬ F' q := fun q h1 h2 => by
    rcases ow.nw q h2 with z | z
    · exact j.d2 q h1 z
    · exact j.pn.known h1 z
  have dS : ∀ q, P2.fp aS q → ¬ F' q := fun q h1 h2 => by
    rcases ow.nw q h2 with z | z
    · exact j.d3 q h1 z
    · exact j.st.known h1 z
  have zo : P2.fp aS (aS .obj) := PLay.fpO
  refine ⟨b.1, pn', st', fun _ => ⟨b.1.upd (j.z2 _ zo), pn'.putP fun h => j.d1 _ h zo, st'.setH, sh'.put (dS _ zo), j.wf, j.wf2, g', j.d1, dF, dS, j.z1, j.z2, b.2⟩⟩
end
section
variable {cl : Nat → Addr} {S0 S : Sto} {aP aS : PR → Addr} {s p : Addr} {nw nw2 : Int} {P P2 : PS} {d d2 d' : Int → Nat} {H : Shs} {F : Fp} {o : MO} {m : Nat} {row : PRow} {Q : WQ} {X : XQ}
theorem JP.told (j : JP cl S0 S aP aS s nw P d nw P d H F) (n : NP S0 aP aS P P F p) (hp : S p = some o) (hb : Bag m o) (hm : m ≤ 8000000) (hl : P.kf.length ≤ 62) (hg : H.gr.length ≤ 1000) (hq : ∀ o', Bag (m + 1) o' → Q (.bl true) (M3.put S p o')) : sp_law_all_told cl [.ref p, .ref (aP .obj), .ref (aS .obj)] S Q X :=
  ⟨p, o, m, aP, aS, s, nw, _, P, d, _, rfl, hp, hb, hm, fun _ => (j.put n).ctx hl hg, fun _ => (j.put n).st, hq⟩
end
def sp_law_panes_made (cl : Nat → Addr) : MSp := fun ws S Q _ => ∃ (p : Addr) (o : MO) (m : Nat) (n : Nat) (S0 : Sto) (aP aS : PR → Addr) (s : Addr) (nw : Int) (P : PS) (d : Int → Nat) (H : Shs) (F : Fp), ws = [.ref p, .ref (aP .obj), .ref (aS .obj), .int n] ∧ S p = some o ∧ Bag m o ∧ m ≤ 1000000 ∧ JP cl S0 S aP aS s nw P d nw P d H F ∧ NP S0 aP aS P P F p ∧ P.kf.length + n ≤ 60 ∧ 1 ≤ H.gr.length ∧ H.gr.length ≤ 1000 ∧
  ∀ (aP' aS' : PR → Addr) (nw' : Int) (P' : PS) (d' : Int → Nat) o' S', JP cl S0 S' aP' aS' s nw' P' d' nw' P' d' H F → NP S0 aP' aS' P' P' F p → P'.kf.length = P.kf.length + n → nw' = nw + n → (PV P H.gr.length → PV P' H.gr.length) → aP' .obj = aP .obj → aS' .obj = aS .obj → S' p = some o' → Bag (m + 60 * n) o' → Q (.bl true) S'
section
variable {cl : Nat → Addr} {S0 S : Sto} {aP aS : PR → Addr} {s p : Addr} {nw nw2 : Int} {P P2 : PS} {d d2 d' : Int → Nat} {H : Shs} {F : Fp} {o : MO} {m : Nat} {row : PRow} {Q : WQ} {X : XQ} {K : PRow → Prop}
theorem JP.made {n : Nat} (j : JP cl S0 S aP aS s nw P d nw P d H F) (np : NP S0 aP aS P P F p) (hp : S p = some o) (hb : Bag m o) (hm : m ≤ 1000000) (hl : P.kf.length + n ≤ 60) (h1 : 1 ≤ H.gr.length) (hg : H.gr.length ≤ 1000)
    (hq : ∀ (aP' aS' : PR → Addr) (nw' : Int) (P' : PS) (d' : Int → Nat) o' S', JP cl S0 S' aP' aS' s nw' P' d' nw' P' d' H F → NP S0 aP' aS' P' P' F p → P'.kf.length = P.kf.length + n → nw' = nw + n → (PV P H.gr.length → PV P' H.gr.length) → aP' .obj = aP .obj → aS' .obj = aS .obj → S' p = some o' → Bag (m + 60 * n) o' → Q (.bl true) S') : sp_law_panes_made cl [.ref p, .ref (aP .obj), .ref (aS .obj), .int n] S Q X :=
  ⟨p, o, m, n, S0, aP, aS, s, nw, P, d, H, F, rfl, hp, hb, hm, j, np, hl, h1, hg, hq⟩
end
section
variable {cl : Nat → Addr} {S0 S : Sto} {aP aS : PR → Addr} {s p : Addr} {nw nw2 : Int} {P P2 : PS} {d d2 d' : Int → Nat} {H : Shs} {F : Fp} {o : MO} {m : Nat} {row : PRow} {Q : WQ} {X : XQ} {K : PRow → Prop}
theorem POut.deed {many : Nat} (hd : row.isDeed) (hb : row.bad P d many = none) (h : ∀ aP' S', PLay S' (pnH cl s (row.nw nw)) (row.op P d nw) aP' → aP' .obj = aP .obj → Own (P.fp aP) S ((row.op P d nw).fp aP') S' → Q (row.due nw) S') : POut cl S aP s nw P d many Q X row := by
  refine POut.of (fun _ => ?_) fun n hn => by rw [hb] at hn; cases hn
  cases row with
  | told k => exact hd.elim
  | inside k => exact hd.elim
  | next => exact hd.elim
  | all => exact hd.elim
  | _ => exact h
theorem NP.ownP {P' : PS} {aP' : PR → Addr} {S' : Sto} (n : NP S0 aP aS P P2 F p) (hp : S p = some o) (ow : Own (P.fp aP) S (P'.fp aP') S') : NP S0 aP' aS P' P2 F p ∧ S' p = some o := ⟨⟨ow.no n.P hp, n.S, n.F, n.z⟩, ow.at n.P hp⟩
end
def N_law_draws : List Str := ["cell", "count", "row", "rest", "base", "more", "k", "stir"]
def ir_law_draws : ISs := .cons (.set 2 (.mat (.dsp (.nil)))) (.cons (.set 3 (.bin .sub (.var 0) (.cst (.int 1000000000000000000)))) (.cons (.set 4 (.bin .add (.bin .mod (.var 0) (.cst (.int 1000000007))) (.cst (.int 1)))) (.cons (.set 5 (.bin .mod (.var 0) (.cst (.int 999983)))) (.cons (.for (.nm 6) (.rng (.var 1)) (.cons (.set 7 (.bin .mod (.bin .mul (.var 4) (.bin .add (.bin .mul (.cst (.int 2)) (.var 6)) (.cst (.int 3)))) (.cst (.int 2147483647)))) (.cons (.set 7 (.bin .mod (.bin .add (.bin .pow (.var 7) (.cst (.int 5))) (.bin .pow (.bin .add (.var 6) (.cst (.int 1))) (.cst (.int 3)))) (.cst (.int 2147483629)))) (.cons (.set 7 (.bin .fdiv (.bin .mod (.bin .pow (.bin .add (.var 7) (.var 5)) (.cst (.int 3))) (.cst (.int 2147483587))) (.cst (.int 16)))) (.cons (.iff (.cmp .gt (.var 3) (.cst (.int 0))) (.cons (.set 7 (.bin .mod (.var 3) (.cst (.int 1000003)))) (.cons (.set 3 (.bin .fdiv (.var 3) (.cst (.int 1000003)))) .nil)) (.nil)) (.cons (.exp (.app (.var 2) (.var 7))) .nil)))))) (.cons (.ret (.var 2)) .nil)))))
structure DrOk (rs : List Int) (n : Nat) : Prop where
  len : rs.length = n
  lo : ∀ x ∈ rs, 0 ≤ x
  hi : ∀ x ∈ rs, x < 2147483648
def sp_law_draws : MSp := fun ws S Q _ => ∃ (c : Int) (n : Nat), ws = [.int c, .int n] ∧ n ≤ 50 ∧ c.natAbs.log2 < 2000000 ∧ ∀ q rs S', Sub S S' → S q = none → S' q = some (.lst (rs.map W.int)) → DrOk rs n → Q (.ref q) S'
theorem pf_law_draws (G : Gs) (ws : List W) (S : Sto) (Q : WQ) (X : XQ) (h : sp_law_draws ws S Q X) : ws.length = 2 ∧ wpF G 8 ir_law_draws ws S Q X := by
  obtain ⟨c, n, rfl, hn, hc, hq⟩ := h
  refine ⟨rfl, ?_⟩
  have sz : ∀ {n : Nat}, n ≤ 1000 → n ≤ sizeLine := fun h => by rw [sizeLine_val]; omega
  unfold wpF ir_law_draws
  walk_at "wp"
  refine ⟨Nat.zero_le _, fun q hq0 => ⟨by decide, by decide, ⟨by omega, by omega⟩, ?_⟩⟩
  have m0 : 0 ≤ c % 1000000007 := Int.emod_nonneg _ (by decide)
  have m1 : c % 1000000007 < 1000000007 := Int.emod_lt_of_pos _ (by decide)
  have n0 : 0 ≤ c % 999983 := Int.emod_nonneg _ (by decide)
  have n1 : c % 999983 < 999983 := Int.emod_lt_of_pos _ (by decide)
  generalize c % 1000000007 = base at *
  generalize c % 999983 = more at *
  refine ForG.by (fun k σ' S' => ∃ (rs : List Int) (rest : Int) (b6 b7 : Option W), S' q = some (.lst (rs.map W.int)) ∧ Sub S S' ∧ DrOk rs k ∧ σ' = [some (.int c), some (.int n), some (.ref q), some (.int rest), some (.int (base + 1)), some (.int more), b6, b7]) _ (Sub.refl _)
    ⟨[], c - 1000000000000000000, none, none, put_same, Sub.put hq0, ⟨rfl, fun x h => (by cases h), fun x h => (by cases h)⟩, rfl⟩ ?_ ?_
  · rintro k x σ' S' hx ⟨rs, rest, b6, b7, hS, sb, hr, rfl⟩
    obtain ⟨hk, rfl⟩ := rng_at hx
    have hk50 : k < 50 := by omega
    refine ⟨trivial, ?_⟩
    walk_at "wp"
    refine ⟨mulOk_of (by omega) (by omega) (by omega) (by omega), mulOk_of (by omega) (by omega) (by omega) (by omega), by decide, ?_⟩
    have a0 : 0 ≤ (base + 1) * (2 * (0 + (k : Int)) + 3) % 2147483647 := Int.emod_nonneg _ (by decide)
    have a1 : (base + 1) * (2 * (0 + (k : Int)) + 3) % 2147483647 < 2147483647 := Int.emod_lt_of_pos _ (by decide)
    generalize (base + 1) * (2 * (0 + (k : Int)) + 3) % 2147483647 = st at *
    have pw : ∀ {z : Int}, 0 ≤ z → z < 10 ^ 18 → powOk z 3 ∧ powOk z 5 := fun h0 h1 => by
      have : ((10 : Nat) ^ 18) < 2 ^ 64 := by decide
      exact ⟨⟨by decide, by decide, by omega⟩, ⟨by decide, by decide, by omega⟩⟩
    rw [bin_powI]
    refine ⟨(pw a0 (by omega)).2, ?_⟩
    rw [bin_powI]
    refine ⟨(pw (by omega) (by omega)).1, ?_⟩
    generalize st ^ Int.toNat 5 + (0 + (k : Int) + 1) ^ Int.toNat 3 = z1 at *
    have e1 : ∀ {Q : W → Prop}, binW .add (.int (st ^ Int.toNat 5)) (.int ((0 + (k : Int) + 1) ^ Int.toNat 3)) Q = Q (.int (st ^ Int.toNat 5 + (0 + (k : Int) + 1) ^ Int.toNat 3)) := rfl
    rw [e1]
    generalize st ^ Int.toNat 5 + (0 + (k : Int) + 1) ^ Int.toNat 3 = z1
    rw [bin_mod]
    refine ⟨by decide, ?_⟩
    have c0 : 0 ≤ z1 % 2147483629 := Int.emod_nonneg _ (by decide)
    have c1 : z1 % 2147483629 < 2147483629 := Int.emod_lt_of_pos _ (by decide)
    generalize z1 % 2147483629 = z2 at *
    rw [bin_addI, bin_powI]
    refine ⟨(pw (by omega) (by omega)).1, ?_⟩
    rw [bin_mod]
    refine ⟨by decide, ?_⟩
    have d0 : 0 ≤ (z2 + more) ^ Int.toNat 3 % 2147483587 := Int.emod_nonneg _ (by decide)
    have d1 : (z2 + more) ^ Int.toNat 3 % 2147483587 < 2147483587 := Int.emod_lt_of_pos _ (by decide)
    generalize (z2 + more) ^ Int.toNat 3 % 2147483587 = z3 at *
    rw [bin_fdiv]
    refine ⟨⟨by decide, by decide +kernel⟩, ?_⟩
    have hrl : rs.length < 50 := by rw [hr.len]; omega
    have fin : ∀ (v rest2 : Int), 0 ≤ v → v < 2147483648 → ∃ rs' rest3 b6 b7, some (MO.lst (rs.map W.int ++ [.int v])) = some (MO.lst (rs'.map W.int)) ∧ Sub S (put S' q (.lst (rs.map W.int ++ [.int v]))) ∧ DrOk rs' (k + 1) ∧ [some (W.int c), some (.int n), some (.ref q), some (.int rest2), some (.int (base + 1)), some (.int more), some (.int (0 + (k : Int))), some (.int v)] = [some (.int c), some (.int n), some (.ref q), some (.int rest3), some (.int (base + 1)), some (.int more), b6, b7] := fun v rest2 v0 v1 =>
      ⟨rs ++ [v], rest2, _, _, by rw [List.map_append]; rfl, sb.upd hq0, ⟨by rw [List.length_append, List.length_singleton, hr.len], fun x hx => by
        rw [List.mem_append, List.mem_singleton] at hx
        exact hx.elim (hr.lo x) fun e => e ▸ v0, fun x hx => by
        rw [List.mem_append, List.mem_singleton] at hx
        exact hx.elim (hr.hi x) fun e => e ▸ v1⟩, rfl⟩
    simp only [hS]
    by_cases cr : 0 < rest
    · rw [if_pos cr]
      exact ⟨by decide, ⟨by decide, by decide +kernel⟩, trivial, by rw [sizeLine_val, List.length_map]; omega, fin _ _ (Int.emod_nonneg _ (by decide)) (by have := Int.emod_lt_of_pos rest (show (0 : Int) < 1000003 by decide); omega)⟩
    · rw [if_neg cr]
      exact ⟨trivial, by rw [sizeLine_val, List.length_map]; omega, fin _ _ (by omega) (by omega)⟩
  · rintro σ' S' ⟨rs, rest, b6, b7, hS, sb, hr, rfl⟩
    rw [rng_len, Int.toNat_natCast] at hr
    refine ⟨trivial, ?_⟩
    walk_at "wp"
    exact ⟨_, Sub.refl _, hq q rs S' sb hq0 hS hr⟩
def N_law_sign_v2 : List Str := ["number", "some"]
def ir_law_sign_v2 : ISs := .cons (.set 1 (.cst (.str " !\"#$&'()*+,-./0123456789:;<=>?@ABCDEFGHIJKLMNOPQRSTUVWXYZ[\\]^_`"))) (.cons (.set 1 (.bin .add (.var 1) (.cst (.str "abcdefghijklmnopqrstuvwxyz{|}~")))) (.cons (.ret (.idx (.var 1) (.bin .mod (.var 0) (.cst (.int 94))))) .nil))
def sgL : List Nat := ((" !\"#$&'()*+,-./0123456789:;<=>?@ABCDEFGHIJKLMNOPQRSTUVWXYZ[\\]^_`" : Str) ++ ("abcdefghijklmnopqrstuvwxyz{|}~" : Str)).cps.toList
def sgn (n : Int) : Str := ⟨#[sgL.getD (n % 94).toNat 0]⟩
theorem sgL_len : sgL.length = 94 := by decide +kernel
theorem sgL_ok : ∀ k ∈ sgL, k < 1114112 := by decide +kernel
theorem sgn_ok (n : Int) : SgOk (sgn n) := by
  have h0 : 0 ≤ n % 94 := Int.emod_nonneg _ (by decide)
  have h1 : n % 94 < 94 := Int.emod_lt_of_pos _ (by decide)
  have h2 : (n % 94).toNat < sgL.length := by rw [sgL_len]; omega
  refine ⟨_, rfl, ?_⟩
  rw [List.getD_eq_getElem?_getD, List.getElem?_eq_getElem h2]
  exact sgL_ok _ (List.getElem_mem h2)
def sp_law_sign_v2 : MSp := fun ws S Q _ => ∃ n : Int, ws = [.int n] ∧ Q (.str (sgn n)) S
theorem pf_law_sign_v2 (G : Gs) (ws : List W) (S : Sto) (Q : WQ) (X : XQ) (h : sp_law_sign_v2 ws S Q X) : ws.length = 1 ∧ wpF G 2 ir_law_sign_v2 ws S Q X := by
  obtain ⟨n, rfl, hq⟩ := h
  refine ⟨rfl, ?_⟩
  unfold wpF ir_law_sign_v2
  walk_at "wp"
  refine ⟨by decide +kernel, ?_⟩
  refine ⟨by decide, ?_⟩
  have e0 : sgL = ((" !\"#$&'()*+,-./0123456789:;<=>?@ABCDEFGHIJKLMNOPQRSTUVWXYZ[\\]^_`" : Str) ++ ("abcdefghijklmnopqrstuvwxyz{|}~" : Str)).cps.toList := rfl
  have e2 : ((" !\"#$&'()*+,-./0123456789:;<=>?@ABCDEFGHIJKLMNOPQRSTUVWXYZ[\\]^_`" : Str) ++ ("abcdefghijklmnopqrstuvwxyz{|}~" : Str)).length = 94 := by decide +kernel
  generalize (" !\"#$&'()*+,-./0123456789:;<=>?@ABCDEFGHIJKLMNOPQRSTUVWXYZ[\\]^_`" : Str) ++ ("abcdefghijklmnopqrstuvwxyz{|}~" : Str) = s at *
  have h0 : 0 ≤ n % 94 := Int.emod_nonneg _ (by decide)
  have h1 : n % 94 < 94 := Int.emod_lt_of_pos _ (by decide)
  obtain ⟨j, hj⟩ := Int.eq_ofNat_of_zero_le h0
  rw [hj]
  have hjl : j < s.cps.toList.length := by rw [← e0, sgL_len]; omega
  have ei : idxW (.str s) (.int (j : Int)) S = some (.str ⟨#[s.cps.toList[j]]⟩) := by
    unfold idxW
    dsimp only
    rw [if_pos (by rw [sizeLine_val, e2]; decide), atI_nat (List.getElem?_eq_getElem hjl)]
    rfl
  rw [ei]
  have es : sgn n = ⟨#[s.cps.toList[j]]⟩ := by
    unfold sgn
    rw [hj, e0, Int.toNat_natCast, List.getD_eq_getElem?_getD, List.getElem?_eq_getElem hjl]; rfl
  rw [es] at hq
  exact ⟨_, Sub.refl _, hq⟩
abbrev B4 := Int × Int × Int × Int
def ow4 (f : Fc) (c : Int × Int) : B4 := (c.1, c.2, c.1 + f.w, c.2 + f.h)
def mH (nw : Int) (gd : Addr) : Addr → Addr → MO := fun a b => .lst [.ref a, .ref b, .int nw, .ref gd]
section
variable {S : Sto} {nw : Int} {gd : Addr} {P : PS} {ad : PR → Addr}
theorem m_obj (l : PLay S (mH nw gd) P ad) : S (ad .obj) = some (.lst [.ref (ad .facts), .ref (ad .lists), .int nw, .ref gd]) := l.obj
theorem fc_at {k : Int} (l : PLay S (mH nw gd) P ad) (hk : k ∈ P.kf) {i : Int} : idxW (.ref (ad (.fact k))) (.int i) S = atI (fcL (P.f k)) i := by rw [idx_ref, l.fact hk]
end
theorem Own.apart {A A' B : Fp} {S S' : Sto} (ow : Own A S A' S') (d : ∀ q, A q → ¬ B q) (kn : ∀ q, B q → S q ≠ none) : ∀ q, A' q → ¬ B q := fun q h1 h2 => (ow.nw q h1).elim (fun z => d q z h2) (kn q h2)
structure JM (cl : Nat → Addr) (S0 S : Sto) (aP aS : PR → Addr) (s gd : Addr) (nw : Int) (P : PS) (d : Int → Nat) (nw2 : Int) (P2 : PS) (d2 : Int → Nat) (H : Shs) (T : List Gr) (F E : Fp) : Prop where
  sub : Sub S0 S
  pn : PLay S (pnH cl s nw) P aP
  st : PLay S (mH nw2 gd) P2 aS
  sh : ShAt cl S s H F
  gr : GrsAt cl S gd T E
  wf : PWf P nw d
  wf2 : PWf P2 nw2 d2
  gok : ∀ g ∈ H.gr, GOk g
  tok : ∀ g ∈ T, GOk g
  pS : ∀ q, P.fp aP q → ¬ P2.fp aS q
  pF : ∀ q, P.fp aP q → ¬ F q
  pE : ∀ q, P.fp aP q → ¬ E q
  sF : ∀ q, P2.fp aS q → ¬ F q
  sE : ∀ q, P2.fp aS q → ¬ E q
  fE : ∀ q, F q → ¬ E q
  z0 : ∀ q, P.fp aP q → S0 q = none
  z1 : ∀ q, P2.fp aS q → S0 q = none
  z2 : ∀ q, F q → S0 q = none
  z3 : ∀ q, E q → S0 q = none
section
variable {cl : Nat → Addr} {S0 S S' : Sto} {aP aS aP' aS' : PR → Addr} {s gd p : Addr} {nw nw2 nw' : Int} {P P2 P' : PS} {d d2 d' : Int → Nat} {H H' : Shs} {T T' : List Gr} {F E F' E' : Fp} {o : MO}
theorem JM.less (j : JM cl S0 S aP aS s gd nw P d nw2 P2 d2 H T F E) (k : Sub S S') : JM cl S0 S' aP aS s gd nw P d nw2 P2 d2 H T F E :=
  ⟨j.sub.trans k, j.pn.subP k, j.st.subP k, j.sh.sub k, j.gr.sub k, j.wf, j.wf2, j.gok, j.tok, j.pS, j.pF, j.pE, j.sF, j.sE, j.fE, j.z0, j.z1, j.z2, j.z3⟩
theorem JM.call (j : JM cl S0 S aP aS s gd nw P d nw2 P2 d2 H T F E) (l' : PLay S' (pnH cl s nw') P' aP') (w' : PWf P' nw' d') (ow : Own (P.fp aP) S (P'.fp aP') S') : JM cl S0 S' aP' aS s gd nw' P' d' nw2 P2 d2 H T F E :=
  have b := ow.base j.sub j.z0
  ⟨b.1, l', j.st.ownP ow fun q h1 h2 => j.pS q h2 h1, j.sh.own ow fun q h1 h2 => j.pF q h2 h1, j.gr.own ow fun q h1 h2 => j.pE q h2 h1, w', j.wf2, j.gok, j.tok, ow.apart j.pS fun _ => j.st.known, ow.apart j.pF fun _ => j.sh.known, ow.apart j.pE fun _ => j.gr.known, j.sF, j.sE, j.fE, b.2, j.z1, j.z2, j.z3⟩
theorem JM.done (j : JM cl S0 S aP aS s gd nw P d nw2 P2 d2 H T F E) (l' : PLay S' (mH nw' gd) P' aS') (w' : PWf P' nw' d') (ow : Own (P2.fp aS) S (P'.fp aS') S') : JM cl S0 S' aP aS' s gd nw P d nw' P' d' H T F E :=
  have b := ow.base j.sub j.z1
  have e := ow.apart (B := P.fp aP) (fun q h1 h2 => j.pS q h2 h1) fun _ => j.pn.known
  ⟨b.1, j.pn.ownP ow j.pS, l', j.sh.own ow fun q h1 h2 => j.sF q h2 h1, j.gr.own ow fun q h1 h2 => j.sE q h2 h1, j.wf, w', j.gok, j.tok, fun q h1 h2 => e q h2 h1, j.pF, j.pE, ow.apart j.sF fun _ => j.sh.known, ow.apart j.sE fun _ => j.gr.known, j.fE, j.z0, b.2, j.z2, j.z3⟩
theorem JM.sheets (j : JM cl S0 S aP aS s gd nw P d nw2 P2 d2 H T F E) (l' : ShAt cl S' s H' F') (g' : ∀ g ∈ H'.gr, GOk g) (ow : Own F S F' S') : JM cl S0 S' aP aS s gd nw P d nw2 P2 d2 H' T F' E :=
  have b := ow.base j.sub j.z2
  have e1 := ow.apart (B := P.fp aP) (fun q h1 h2 => j.pF q h2 h1) fun _ => j.pn.known
  have e2 := ow.apart (B := P2.fp aS) (fun q h1 h2 => j.sF q h2 h1) fun _ => j.st.known
  ⟨b.1, j.pn.ownP ow j.pF, j.st.ownP ow j.sF, l', j.gr.own ow fun q h1 h2 => j.fE q h2 h1, j.wf, j.wf2, g', j.tok, j.pS, fun q h1 h2 => e1 q h2 h1, j.pE, fun q h1 h2 => e2 q h2 h1, j.sE, ow.apart j.fE fun _ => j.gr.known, j.z0, j.z1, b.2, j.z3⟩
theorem JM.grids (j : JM cl S0 S aP aS s gd nw P d nw2 P2 d2 H T F E) (l' : GrsAt cl S' gd T' E') (t' : ∀ g ∈ T', GOk g) (ow : Own E S E' S') : JM cl S0 S' aP aS s gd nw P d nw2 P2 d2 H T' F E' :=
  have b := ow.base j.sub j.z3
  have e1 := ow.apart (B := P.fp aP) (fun q h1 h2 => j.pE q h2 h1) fun _ => j.pn.known
  have e2 := ow.apart (B := P2.fp aS) (fun q h1 h2 => j.sE q h2 h1) fun _ => j.st.known
  have e3 := ow.apart (B := F) (fun q h1 h2 => j.fE q h2 h1) fun _ => j.sh.known
  ⟨b.1, j.pn.ownP ow j.pE, j.st.ownP ow j.sE, j.sh.own ow j.fE, l', j.wf, j.wf2, j.gok, t', j.pS, j.pF, fun q h1 h2 => e1 q h2 h1, j.sF, fun q h1 h2 => e2 q h2 h1, fun q h1 h2 => e3 q h2 h1, j.z0, j.z1, j.z2, b.2⟩
theorem JM.ctx (j : JM cl S0 S aP aS s gd nw P d nw2 P2 d2 H T F E) (hl : P.kf.length ≤ 62) (hm : H.gr.length ≤ 1000) : PCtx cl S aP s nw P d H.gr.length := ⟨j.pn, j.wf, hl, ⟨H, F, j.sh, rfl⟩, hm⟩
def f4 (aP aS : PR → Addr) (P P2 : PS) (F E : Fp) : Fp := fun q => P.fp aP q ∨ P2.fp aS q ∨ F q ∨ E q
theorem JM.known (j : JM cl S0 S aP aS s gd nw P d nw2 P2 d2 H T F E) {q : Addr} (h : f4 aP aS P P2 F E q) : S q ≠ none := by
  rcases h with h | h | h | h
  · exact j.pn.known h
  · exact j.st.known h
  · exact j.sh.known h
  · exact j.gr.known h
end
def N_law_within_v2 : List Str := ["m", "pane", "one"]
def ir_law_within_v2 : ISs := .cons (.whl (.and (.cmp .ne (.var 2) (.cst (.int 0))) (.cmp .ne (.var 2) (.var 1))) (.cons (.set 2 (.idx (.idx (.idx (.var 0) (.cst (.int 0))) (.var 2)) (.cst (.int 0)))) .nil)) (.cons (.ret (.cmp .eq (.var 2) (.var 1))) .nil)
def sp_law_within_v2 : MSp := fun ws S Q _ => ∃ (aS : PR → Addr) (nw' : Int) (gd : Addr) (P : PS) (nw : Int) (d : Int → Nat) (k i : Int), ws = [.ref (aS .obj), .int k, .int i] ∧ PLay S (mH nw' gd) P aS ∧ PWf P nw d ∧ k ∈ P.kf ∧ i ∈ P.kl ∧ Q (.bl (decide (k ∈ chn P (d i) i))) S
theorem pf_law_within_v2 (G : Gs) (ws : List W) (S : Sto) (Q : WQ) (X : XQ) (h : sp_law_within_v2 ws S Q X) : ws.length = 3 ∧ wpF G 3 ir_law_within_v2 ws S Q X := by
  obtain ⟨aS, nw', gd, P, nw, d, k, i0, rfl, l, w, hk, hi0, hq⟩ := h
  refine ⟨rfl, ?_⟩
  have hk0 : k ≠ 0 := fun e => by have := (w.pos k hk).1; omega
  unfold wpF ir_law_within_v2
  walk_at "wp"
  refine WhlG.by (fun n σ S' => ∃ i : Int, i ∈ P.kl ∧ n = d i ∧ (k ∈ chn P (d i0) i0 ↔ k ∈ chn P (d i) i) ∧ S' = S ∧ σ = [some (.ref (aS .obj)), some (.int k), some (.int i)]) _ _ (Sub.refl _) ⟨i0, hi0, rfl, Iff.rfl, rfl, rfl⟩ ?_
  rintro n σ S' ⟨i, hi, rfl, hch, rfl, rfl⟩
  walk_at "wp"
  by_cases c0 : i = 0
  · rw [if_neg (by simp [c0])]
    walk_at "wp"
    rw [c0, w.chn_0] at hch
    rw [decide_eq_false (fun z => by have := hch.mp z; cases this)] at hq
    refine ⟨_, Sub.refl _, ?_⟩
    rw [show decide (i = k) = false from decide_eq_false (fun e => hk0 (e.symm.trans c0))]
    exact hq
  · rw [if_pos (by simp [c0])]
    have hif := w.kf_of hi c0
    have hst := w.chn_step hif
    have hds := w.dS i hif
    by_cases c1 : i = k
    · rw [if_neg (by simp [c1])]
      walk_at "wp"
      rw [hst, c1] at hch
      rw [decide_eq_true (hch.mpr (List.mem_cons_self ..))] at hq
      refine ⟨_, Sub.refl _, ?_⟩
      rw [show decide (i = k) = true from decide_eq_true c1]
      exact hq
    · rw [if_pos (by simp [c1])]
      simp only [m_obj l, atI_0, l.idxF hif, fc_at l hif]
      rw [show atI (fcL (P.f i)) 0 = some (.int (P.f i).par) from rfl]
      rw [hst, List.mem_cons] at hch
      exact ⟨_, by omega, (P.f i).par, w.par i hif, rfl, hch.trans ⟨fun z => z.resolve_left fun e => c1 e.symm, .inr⟩, rfl⟩
def N_law_opened : List Str := ["panes", "m", "r", "far", "parent", "away", "x", "y", "w", "h", "found"]
def ir_law_opened : ISs := .cons (.set 4 (.idl (.t (.cat (.t (.dsp (.cons (.cst (.int 0)) (.cons (.cst (.int 0)) .nil)))) (.t (.srtd (.idx (.var 1) (.cst (.int 0))))))) (.bin .mod (.idx (.var 2) (.cst (.int 1))) (.bin .add (.len (.idx (.var 1) (.cst (.int 0)))) (.cst (.int 2)))))) (.cons (.set 5 (.bin .mul (.var 3) (.intE (.or (.cmp .eq (.var 4) (.cst (.int 0))) (.cmp .eq (.bin .mod (.bin .fdiv (.idx (.var 2) (.cst (.int 3))) (.cst (.int 221))) (.cst (.int 7))) (.cst (.int 3))))))) (.cons (.set 6 (.bin .add (.bin .sub (.bin .mod (.idx (.var 2) (.cst (.int 3))) (.cst (.int 17))) (.cst (.int 5))) (.var 5))) (.cons (.set 7 (.bin .sub (.bin .sub (.bin .mod (.bin .fdiv (.idx (.var 2) (.cst (.int 3))) (.cst (.int 17))) (.cst (.int 13))) (.cst (.int 4))) (.var 5))) (.cons (.set 8 (.idl (.t (.dsp (.cons (.bin .add (.cst (.int 1)) (.bin .mod (.idx (.var 2) (.cst (.int 4))) (.cst (.int 9)))) (.cons (.cst (.int 100000000000000000000000000000000000000000000000000000000000)) .nil)))) (.intE (.cmp .eq (.bin .mod (.bin .fdiv (.idx (.var 2) (.cst (.int 4))) (.cst (.int 63))) (.cst (.int 16))) (.cst (.int 5)))))) (.cons (.set 9 (.idl (.t (.dsp (.cons (.bin .add (.cst (.int 1)) (.bin .mod (.bin .fdiv (.idx (.var 2) (.cst (.int 4))) (.cst (.int 9))) (.cst (.int 7)))) (.cons (.cst (.int 100000000000000000000000000000000000000000000000000000000000)) .nil)))) (.intE (.cmp .eq (.bin .mod (.bin .fdiv (.idx (.var 2) (.cst (.int 4))) (.cst (.int 1008))) (.cst (.int 16))) (.cst (.int 5)))))) (.cons (.set 10 (.meth 435 11 "open_pane" (.var 0) (.cons (.var 4) (.cons (.bin .mod (.idx (.var 2) (.cst (.int 2))) (.len (.idx (.var 1) (.cst (.int 3))))) (.cons (.var 6) (.cons (.var 7) (.cons (.var 8) (.cons (.var 9) .nil)))))))) (.cons (.asg (.sub (.var 1) (.cst (.int 2))) (.bin .add (.idx (.var 1) (.cst (.int 2))) (.cst (.int 1)))) (.cons (.asg (.sub (.idx (.var 1) (.cst (.int 0))) (.idx (.var 1) (.cst (.int 2)))) (.mat (.dsp (.cons (.var 4) (.cons (.bin .mod (.idx (.var 2) (.cst (.int 2))) (.len (.idx (.var 1) (.cst (.int 3))))) (.cons (.var 6) (.cons (.var 7) (.cons (.var 8) (.cons (.var 9) (.cons (.cst (.int 0)) (.cons (.cst (.int 0)) (.cons (.cst (.bl false)) .nil)))))))))))) (.cons (.asg (.sub (.idx (.var 1) (.cst (.int 1))) (.idx (.var 1) (.cst (.int 2)))) (.mat (.dsp (.nil)))) (.cons (.exp (.app (.idx (.idx (.var 1) (.cst (.int 1))) (.var 4)) (.idx (.var 1) (.cst (.int 2))))) (.cons (.ret (.var 10)) .nil)))))))))))
def ir_law_opened_t6 : ISs := .cons (.set 10 (.meth 435 11 "open_pane" (.var 0) (.cons (.var 4) (.cons (.bin .mod (.idx (.var 2) (.cst (.int 2))) (.len (.idx (.var 1) (.cst (.int 3))))) (.cons (.var 6) (.cons (.var 7) (.cons (.var 8) (.cons (.var 9) .nil)))))))) (.cons (.asg (.sub (.var 1) (.cst (.int 2))) (.bin .add (.idx (.var 1) (.cst (.int 2))) (.cst (.int 1)))) (.cons (.asg (.sub (.idx (.var 1) (.cst (.int 0))) (.idx (.var 1) (.cst (.int 2)))) (.mat (.dsp (.cons (.var 4) (.cons (.bin .mod (.idx (.var 2) (.cst (.int 2))) (.len (.idx (.var 1) (.cst (.int 3))))) (.cons (.var 6) (.cons (.var 7) (.cons (.var 8) (.cons (.var 9) (.cons (.cst (.int 0)) (.cons (.cst (.int 0)) (.cons (.cst (.bl false)) .nil)))))))))))) (.cons (.asg (.sub (.idx (.var 1) (.cst (.int 1))) (.idx (.var 1) (.cst (.int 2)))) (.mat (.dsp (.nil)))) (.cons (.exp (.app (.idx (.idx (.var 1) (.cst (.int 1))) (.var 4)) (.idx (.var 1) (.cst (.int 2))))) (.cons (.ret (.var 10)) .nil)))))
def rg (rs : List Int) (i : Nat) : Int := rs.getD i 0
theorem rg_at {rs : List Int} {n i : Nat} (h : DrOk rs n) (hi : i < n) : (rs.map W.int)[i]? = some (.int (rg rs i)) ∧ 0 ≤ rg rs i ∧ rg rs i < 2147483648 := by
  have hl : i < rs.length := by rw [h.len]; exact hi
  have e : rg rs i = rs[i] := by unfold rg; rw [List.getD_eq_getElem?_getD, List.getElem?_eq_getElem hl]; rfl
  rw [e]
  exact ⟨by rw [List.getElem?_map, List.getElem?_eq_getElem hl]; rfl, h.lo _ (List.getElem_mem hl), h.hi _ (List.getElem_mem hl)⟩
theorem rg_ix {rs : List Int} {n i : Nat} (h : DrOk rs n) (hi : i < n) : atI (rs.map W.int) (i : Int) = some (.int (rg rs i)) := atI_nat (rg_at h hi).1
def FarOk (far : Int) : Prop := -(10 ^ 60) < far ∧ far < 10 ^ 60
def FcB (f : Fc) : Prop := (-(10 ^ 65) ≤ f.x ∧ f.x ≤ 10 ^ 65) ∧ (-(10 ^ 65) ≤ f.y ∧ f.y ≤ 10 ^ 65) ∧ (-(10 ^ 65) ≤ f.w ∧ f.w ≤ 10 ^ 65) ∧ (-(10 ^ 65) ≤ f.h ∧ f.h ≤ 10 ^ 65) ∧ (-(10 ^ 65) ≤ f.sx ∧ f.sx ≤ 10 ^ 65) ∧ (-(10 ^ 65) ≤ f.sy ∧ f.sy ≤ 10 ^ 65)
def PB (P : PS) : Prop := ∀ k ∈ P.kf, FcB (P.f k)
def RowB : PRow → Prop
  | .open p s x y w h => FcB ⟨p, s, x, y, w, h, 0, 0, false⟩
  | .move _ x y => (-(10 ^ 65) ≤ x ∧ x ≤ 10 ^ 65) ∧ (-(10 ^ 65) ≤ y ∧ y ≤ 10 ^ 65)
  | .resize _ x y => (-(10 ^ 65) ≤ x ∧ x ≤ 10 ^ 65) ∧ (-(10 ^ 65) ≤ y ∧ y ≤ 10 ^ 65)
  | .scroll _ x y => (-(10 ^ 65) ≤ x ∧ x ≤ 10 ^ 65) ∧ (-(10 ^ 65) ≤ y ∧ y ≤ 10 ^ 65)
  | _ => True
theorem PB.opF {P : PS} {k : Int} {v : Fc} (h : PB P) (hv : FcB v) : PB (opF P k v) := fun j hj => by
  show FcB (upI P.f k v j)
  by_cases c : j = k
  · rw [c, upI_same]; exact hv
  · rw [upI_ne c]; exact h j hj
theorem PB.op {P : PS} {nw many : Int} {d : Int → Nat} {row : PRow} (w : PWf P nw d) (h : PB P) (hb : row.bad P d many = none) (hr : RowB row) : PB (row.op P d nw) := by
  have ifk : ∀ {k : Int} {a : Option Nat}, (if k ∉ P.kf then some 4 else a) = none → k ∈ P.kf := fun {k a} h => by
    by_cases c : k ∈ P.kf
    · exact c
    · rw [if_pos c] at h; cases h
  cases row with
  | «open» p s x y w' h' =>
    have nf : nw + 1 ∉ P.kf := fun z => by have := (w.pos _ z).2; omega
    intro j hj
    show FcB (upI P.f (nw + 1) ⟨p, s, x, y, w', h', 0, 0, false⟩ j)
    rcases List.mem_append.mp hj with hj | hj
    · rw [upI_ne (fun e : j = nw + 1 => nf (e ▸ hj))]
      exact h j hj
    · rw [List.mem_singleton.mp hj, upI_same]
      exact hr
  | move k x y =>
    have := h k (ifk hb)
    exact h.opF ⟨hr.1, hr.2, this.2.2⟩
  | resize k x y =>
    have := h k (ifk hb)
    exact h.opF ⟨this.1, this.2.1, hr.1, hr.2, this.2.2.2.2⟩
  | scroll k x y =>
    have := h k (ifk hb)
    exact h.opF ⟨this.1, this.2.1, this.2.2.1, this.2.2.2.1, hr.1, hr.2⟩
  | turn k s => exact h.opF (h k (ifk hb))
  | hide k => exact h.opF (h k (ifk hb))
  | «show» k => exact h.opF (h k (ifk hb))
  | lift k => exact h
  | sink k => exact h
  | over k b => exact h
  | into k p => exact PB.opF (P := opC (opC P (P.f k).par (rmv k (P.c (P.f k).par))) p ((opC P (P.f k).par (rmv k (P.c (P.f k).par))).c p ++ [k])) h (h k (ifk hb))
  | go k => exact fun j hj => h j (List.mem_filter.mp hj).1
  | told k => exact h
  | inside k => exact h
  | next => exact h
  | all => exact h
def PW (P : PS) (many : Int) : Prop := PV P many ∧ PB P
def DOut (cl : Nat → Addr) (S0 S : Sto) (aP aS : PR → Addr) (s gd : Addr) (nw : Int) (P : PS) (H : Shs) (F E : Fp) (N : Nat) (Q : Sto → Prop) : Prop :=
  ∀ aP' aS' nw' P' d' H' F' E' S', JM cl S0 S' aP' aS' s gd nw' P' d' nw' P' d' H' H'.gr F' E' → aP' .obj = aP .obj → aS' .obj = aS .obj → P'.kf.length ≤ N → (H'.gr.length ≤ H.gr.length + 1 ∧ H'.dd.length ≤ H.dd.length + 1 ∧ nw' ≤ nw + 1) → H.gr.length ≤ H'.gr.length → (PW P H.gr.length → PW P' H'.gr.length) → Own (f4 aP aS P P F E) S (f4 aP' aS' P' P' F' E') S' → Q S'
theorem DOut.mono {cl : Nat → Addr} {S0 S : Sto} {aP aS : PR → Addr} {s gd : Addr} {nw : Int} {P : PS} {H : Shs} {F E : Fp} {N N' : Nat} {Q : Sto → Prop} (hq : DOut cl S0 S aP aS s gd nw P H F E N' Q) (h : N ≤ N') : DOut cl S0 S aP aS s gd nw P H F E N Q := fun aP' aS' nw' P' d' H' F' E' S' b1 b2 b3 b4 b5 b6 b7 b8 => hq aP' aS' nw' P' d' H' F' E' S' b1 b2 b3 (Nat.le_trans b4 h) b5 b6 b7 b8
theorem op_len2 {P : PS} {nw : Int} {d : Int → Nat} {row : PRow} (h : row.nw nw = nw) : (row.op P d nw).kf.length ≤ P.kf.length := by
  cases row with
  | «open» p s x y w' h' => have : nw + 1 = nw := h; omega
  | go k => exact List.length_filter_le _ _
  | _ => exact Nat.le_refl _
def sp_law_opened (cl : Nat → Addr) : MSp := fun ws S Q _ => ∃ (S0 : Sto) (aP aS : PR → Addr) (s gd : Addr) (nw : Int) (P : PS) (d : Int → Nat) (H : Shs) (F E : Fp) (ra : Addr) (rs : List Int) (n : Nat) (far : Int), ws = [.ref (aP .obj), .ref (aS .obj), .ref ra, .int far] ∧ JM cl S0 S aP aS s gd nw P d nw P d H H.gr F E ∧ S ra = some (.lst (rs.map W.int)) ∧ DrOk rs n ∧ 5 ≤ n ∧ ¬ f4 aP aS P P F E ra ∧ FarOk far ∧ 1 ≤ H.gr.length ∧ H.gr.length ≤ 100 ∧ P.kf.length ≤ 40 ∧ DOut cl S0 S aP aS s gd nw P H F E (P.kf.length + 1) (fun S' => ∀ w, Q w S')
section
variable {cl : Nat → Addr} {S0 S S' : Sto} {aP aS aP' aS' : PR → Addr} {s gd p : Addr} {nw nw2 nw' : Int} {P P2 P' : PS} {d d2 d' : Int → Nat} {H H' : Shs} {T T' : List Gr} {F E F' E' : Fp} {o : MO}
theorem JM.deed (j : JM cl S0 S aP aS s gd nw P d nw2 P2 d2 H T F E) {row : PRow} (hb : row.bad P d H.gr.length = none) (l' : PLay S' (pnH cl s (row.nw nw)) (row.op P d nw) aP') (ow : Own (P.fp aP) S ((row.op P d nw).fp aP') S') : ∃ d', PWf (row.op P d nw) (row.nw nw) d' ∧ JM cl S0 S' aP' aS s gd (row.nw nw) (row.op P d nw) d' nw2 P2 d2 H T F E := by
  obtain ⟨d', w'⟩ := j.wf.op hb
  exact ⟨d', w', j.call l' w' ow⟩
end
def ir_law_opened_t1 : ISs := .cons (.set 5 (.bin .mul (.var 3) (.intE (.or (.cmp .eq (.var 4) (.cst (.int 0))) (.cmp .eq (.bin .mod (.bin .fdiv (.idx (.var 2) (.cst (.int 3))) (.cst (.int 221))) (.cst (.int 7))) (.cst (.int 3))))))) (.cons (.set 6 (.bin .add (.bin .sub (.bin .mod (.idx (.var 2) (.cst (.int 3))) (.cst (.int 17))) (.cst (.int 5))) (.var 5))) (.cons (.set 7 (.bin .sub (.bin .sub (.bin .mod (.bin .fdiv (.idx (.var 2) (.cst (.int 3))) (.cst (.int 17))) (.cst (.int 13))) (.cst (.int 4))) (.var 5))) (.cons (.set 8 (.idl (.t (.dsp (.cons (.bin .add (.cst (.int 1)) (.bin .mod (.idx (.var 2) (.cst (.int 4))) (.cst (.int 9)))) (.cons (.cst (.int 100000000000000000000000000000000000000000000000000000000000)) .nil)))) (.intE (.cmp .eq (.bin .mod (.bin .fdiv (.idx (.var 2) (.cst (.int 4))) (.cst (.int 63))) (.cst (.int 16))) (.cst (.int 5)))))) (.cons (.set 9 (.idl (.t (.dsp (.cons (.bin .add (.cst (.int 1)) (.bin .mod (.bin .fdiv (.idx (.var 2) (.cst (.int 4))) (.cst (.int 9))) (.cst (.int 7)))) (.cons (.cst (.int 100000000000000000000000000000000000000000000000000000000000)) .nil)))) (.intE (.cmp .eq (.bin .mod (.bin .fdiv (.idx (.var 2) (.cst (.int 4))) (.cst (.int 1008))) (.cst (.int 16))) (.cst (.int 5)))))) (.cons (.set 10 (.meth 435 11 "open_pane" (.var 0) (.cons (.var 4) (.cons (.bin .mod (.idx (.var 2) (.cst (.int 2))) (.len (.idx (.var 1) (.cst (.int 3))))) (.cons (.var 6) (.cons (.var 7) (.cons (.var 8) (.cons (.var 9) .nil)))))))) (.cons (.asg (.sub (.var 1) (.cst (.int 2))) (.bin .add (.idx (.var 1) (.cst (.int 2))) (.cst (.int 1)))) (.cons (.asg (.sub (.idx (.var 1) (.cst (.int 0))) (.idx (.var 1) (.cst (.int 2)))) (.mat (.dsp (.cons (.var 4) (.cons (.bin .mod (.idx (.var 2) (.cst (.int 2))) (.len (.idx (.var 1) (.cst (.int 3))))) (.cons (.var 6) (.cons (.var 7) (.cons (.var 8) (.cons (.var 9) (.cons (.cst (.int 0)) (.cons (.cst (.int 0)) (.cons (.cst (.bl false)) .nil)))))))))))) (.cons (.asg (.sub (.idx (.var 1) (.cst (.int 1))) (.idx (.var 1) (.cst (.int 2)))) (.mat (.dsp (.nil)))) (.cons (.exp (.app (.idx (.idx (.var 1) (.cst (.int 1))) (.var 4)) (.idx (.var 1) (.cst (.int 2))))) (.cons (.ret (.var 10)) .nil))))))))))
def ir_law_opened_t2 : ISs := .cons (.set 6 (.bin .add (.bin .sub (.bin .mod (.idx (.var 2) (.cst (.int 3))) (.cst (.int 17))) (.cst (.int 5))) (.var 5))) (.cons (.set 7 (.bin .sub (.bin .sub (.bin .mod (.bin .fdiv (.idx (.var 2) (.cst (.int 3))) (.cst (.int 17))) (.cst (.int 13))) (.cst (.int 4))) (.var 5))) (.cons (.set 8 (.idl (.t (.dsp (.cons (.bin .add (.cst (.int 1)) (.bin .mod (.idx (.var 2) (.cst (.int 4))) (.cst (.int 9)))) (.cons (.cst (.int 100000000000000000000000000000000000000000000000000000000000)) .nil)))) (.intE (.cmp .eq (.bin .mod (.bin .fdiv (.idx (.var 2) (.cst (.int 4))) (.cst (.int 63))) (.cst (.int 16))) (.cst (.int 5)))))) (.cons (.set 9 (.idl (.t (.dsp (.cons (.bin .add (.cst (.int 1)) (.bin .mod (.bin .fdiv (.idx (.var 2) (.cst (.int 4))) (.cst (.int 9))) (.cst (.int 7)))) (.cons (.cst (.int 100000000000000000000000000000000000000000000000000000000000)) .nil)))) (.intE (.cmp .eq (.bin .mod (.bin .fdiv (.idx (.var 2) (.cst (.int 4))) (.cst (.int 1008))) (.cst (.int 16))) (.cst (.int 5)))))) (.cons (.set 10 (.meth 435 11 "open_pane" (.var 0) (.cons (.var 4) (.cons (.bin .mod (.idx (.var 2) (.cst (.int 2))) (.len (.idx (.var 1) (.cst (.int 3))))) (.cons (.var 6) (.cons (.var 7) (.cons (.var 8) (.cons (.var 9) .nil)))))))) (.cons (.asg (.sub (.var 1) (.cst (.int 2))) (.bin .add (.idx (.var 1) (.cst (.int 2))) (.cst (.int 1)))) (.cons (.asg (.sub (.idx (.var 1) (.cst (.int 0))) (.idx (.var 1) (.cst (.int 2)))) (.mat (.dsp (.cons (.var 4) (.cons (.bin .mod (.idx (.var 2) (.cst (.int 2))) (.len (.idx (.var 1) (.cst (.int 3))))) (.cons (.var 6) (.cons (.var 7) (.cons (.var 8) (.cons (.var 9) (.cons (.cst (.int 0)) (.cons (.cst (.int 0)) (.cons (.cst (.bl false)) .nil)))))))))))) (.cons (.asg (.sub (.idx (.var 1) (.cst (.int 1))) (.idx (.var 1) (.cst (.int 2)))) (.mat (.dsp (.nil)))) (.cons (.exp (.app (.idx (.idx (.var 1) (.cst (.int 1))) (.var 4)) (.idx (.var 1) (.cst (.int 2))))) (.cons (.ret (.var 10)) .nil)))))))))
def ir_law_opened_t7 : ISs := .cons (.asg (.sub (.var 1) (.cst (.int 2))) (.bin .add (.idx (.var 1) (.cst (.int 2))) (.cst (.int 1)))) (.cons (.asg (.sub (.idx (.var 1) (.cst (.int 0))) (.idx (.var 1) (.cst (.int 2)))) (.mat (.dsp (.cons (.var 4) (.cons (.bin .mod (.idx (.var 2) (.cst (.int 2))) (.len (.idx (.var 1) (.cst (.int 3))))) (.cons (.var 6) (.cons (.var 7) (.cons (.var 8) (.cons (.var 9) (.cons (.cst (.int 0)) (.cons (.cst (.int 0)) (.cons (.cst (.bl false)) .nil)))))))))))) (.cons (.asg (.sub (.idx (.var 1) (.cst (.int 1))) (.idx (.var 1) (.cst (.int 2)))) (.mat (.dsp (.nil)))) (.cons (.exp (.app (.idx (.idx (.var 1) (.cst (.int 1))) (.var 4)) (.idx (.var 1) (.cst (.int 2))))) (.cons (.ret (.var 10)) .nil))))
def ir_law_opened_t8 : ISs := .cons (.asg (.sub (.idx (.var 1) (.cst (.int 0))) (.idx (.var 1) (.cst (.int 2)))) (.mat (.dsp (.cons (.var 4) (.cons (.bin .mod (.idx (.var 2) (.cst (.int 2))) (.len (.idx (.var 1) (.cst (.int 3))))) (.cons (.var 6) (.cons (.var 7) (.cons (.var 8) (.cons (.var 9) (.cons (.cst (.int 0)) (.cons (.cst (.int 0)) (.cons (.cst (.bl false)) .nil)))))))))))) (.cons (.asg (.sub (.idx (.var 1) (.cst (.int 1))) (.idx (.var 1) (.cst (.int 2)))) (.mat (.dsp (.nil)))) (.cons (.exp (.app (.idx (.idx (.var 1) (.cst (.int 1))) (.var 4)) (.idx (.var 1) (.cst (.int 2))))) (.cons (.ret (.var 10)) .nil)))
def ir_law_opened_t9 : ISs := .cons (.asg (.sub (.idx (.var 1) (.cst (.int 1))) (.idx (.var 1) (.cst (.int 2)))) (.mat (.dsp (.nil)))) (.cons (.exp (.app (.idx (.idx (.var 1) (.cst (.int 1))) (.var 4)) (.idx (.var 1) (.cst (.int 2))))) (.cons (.ret (.var 10)) .nil))
theorem opened_own {G : Gs} {D : MEnds} {S : Sto} {aS : PR → Addr} {gd ra : Addr} {nw : Int} {P : PS} {d : Int → Nat} {rs : List Int} {gs : List W} {pp x y w h : Int} {t : Nat} {a0 a3 a5 : Option W} {found : W}
    (l : PLay S (mH nw gd) P aS) (wf : PWf P nw d) (hl : P.kf.length ≤ 40) (hpp : pp ∈ P.kl) (hra : S ra = some (.lst (rs.map W.int))) (nra : ¬ P.fp aS ra) (hgd : S gd = some (.lst gs)) (ngd : ¬ P.fp aS gd) {r2 : Int} (a2 : atI (rs.map W.int) 2 = some (.int r2)) (hgs : gs.length ≠ 0) (et : r2 % (gs.length : Int) = t)
    (hq : ∀ aS' S', PLay S' (mH (nw + 1) gd) (opOpen P (nw + 1) ⟨pp, t, x, y, w, h, 0, 0, false⟩) aS' → aS' .obj = aS .obj → Own (P.fp aS) S ((opOpen P (nw + 1) ⟨pp, t, x, y, w, h, 0, 0, false⟩).fp aS') S' → D.rt found S') :
    wpSs G ir_law_opened_t7 D [a0, some (.ref (aS .obj)), some (.ref ra), a3, some (.int pp), a5, some (.int x), some (.int y), some (.int w), some (.int h), some found] S := by
  have sz : ∀ {n : Nat}, n ≤ 1000 → n ≤ sizeLine := fun h => by rw [sizeLine_val]; omega
  unfold ir_law_opened_t7
  show wpSs G (.cons _ ir_law_opened_t8) _ _ _
  generalize hR : ir_law_opened_t8 = R
  walk_at "wp"
  simp only [m_obj l, atI_2]
  show wpSs G R D _ (put S (aS .obj) (mH (nw + 1) gd (aS .facts) (aS .lists)))
  have l1 := l.setH (hd' := mH (nw + 1) gd)
  have o1 : Own (P.fp aS) S (P.fp aS) (put S (aS .obj) (mH (nw + 1) gd (aS .facts) (aS .lists))) := Own.put PLay.fpO
  have hra1 := (o1.fr ra _ nra hra)
  have hgd1 := (o1.fr gd _ ngd hgd)
  generalize put S (aS .obj) (mH (nw + 1) gd (aS .facts) (aS .lists)) = S1 at *
  rw [← hR]
  unfold ir_law_opened_t8
  show wpSs G (.cons _ ir_law_opened_t9) _ _ _
  generalize hR2 : ir_law_opened_t9 = R2
  walk_at "wp"
  simp only [m_obj l1, atI_3, hra1, a2, len_ref, hgd1]
  rw [bin_mod]
  refine ⟨by omega, ?_⟩
  rw [et]
  refine ⟨sz (by decide), fun r1 hr1 => ?_⟩
  have nf : nw + 1 ∉ P.kf := fun z => by have := (wf.pos _ z).2; omega
  have nl : nw + 1 ∉ P.kl := fun z => by
    rw [wf.kl] at z
    rcases List.mem_cons.mp z with z | z
    · have := wf.n0; omega
    · exact nf z
  have sb1 : Sub S1 (put S1 r1 (.lst [W.int pp, W.int t, W.int x, W.int y, W.int w, W.int h, W.int 0, W.int 0, W.bl false])) := Sub.put hr1
  rw [sb1 _ _ (m_obj l1)]
  simp only [atI_0, atI_2]
  refine l1.setwF (v := ⟨pp, t, x, y, w, h, 0, 0, false⟩) nf hr1 (by omega) fun S3 l3 o3 => ?_
  rw [← hR2]
  unfold ir_law_opened_t9
  walk_at "wp"
  refine ⟨sz (by decide), fun r2 hr2 => ?_⟩
  have sb2 : Sub S3 (put S3 r2 (.lst [])) := Sub.put hr2
  have b3 : S3 (aS .obj) = some (mH (nw + 1) gd (aS .facts) (aS .lists)) := l3.obj
  rw [sb2 _ _ b3]
  simp only [mH, atI_1, atI_2]
  have lkl : P.kl.length ≤ 100 := by rw [wf.kl, List.length_cons]; omega
  refine l3.setwL nl hr2 (by show P.kl.length ≤ 1000; omega) fun S4 l4 o4 => ?_
  have np : pp ≠ nw + 1 := fun e => nl (e ▸ hpp)
  have hp4 : pp ∈ P.kl ++ [nw + 1] := List.mem_append_left _ hpp
  have ea : adL (adF aS (nw + 1) r1) (nw + 1) r2 (.list pp) = aS (.list pp) := if_neg np
  have e4 := l4.list (k := pp) hp4
  have ec : (upI P.c (nw + 1) [] pp) = P.c pp := upI_ne np
  rw [ea] at e4
  have e4' : S4 (aS (.list pp)) = some (.lst ((P.c pp).map W.int)) := by rw [e4]; show some (MO.lst ((upI P.c (nw + 1) [] pp).map W.int)) = _; rw [ec]
  have hlen := nd_lenI wf hpp
  have b4 : S4 (aS .obj) = some (mH (nw + 1) gd (aS .facts) (aS .lists)) := l4.obj
  have x4 : idxW (.ref (aS .lists)) (.int pp) S4 = some (.ref (aS (.list pp))) := by have := l4.idxL (k := pp) hp4; rw [ea] at this; exact this
  have l5 := l4.setC (k := pp) hp4 (l := P.c pp ++ [nw + 1])
  rw [ea, List.map_append] at l5
  have o5 : Own (PS.fp ⟨P.kf ++ [nw + 1], P.kl ++ [nw + 1], upI P.f (nw + 1) ⟨pp, t, x, y, w, h, 0, 0, false⟩, upI P.c (nw + 1) []⟩ (adL (adF aS (nw + 1) r1) (nw + 1) r2)) S4 (PS.fp ⟨P.kf ++ [nw + 1], P.kl ++ [nw + 1], upI P.f (nw + 1) ⟨pp, t, x, y, w, h, 0, 0, false⟩, upI P.c (nw + 1) []⟩ (adL (adF aS (nw + 1) r1) (nw + 1) r2)) (put S4 (aS (.list pp)) (.lst ((P.c pp).map W.int ++ [nw + 1].map W.int))) := Own.put ⟨.list pp, hp4, ea⟩
  walk_at "wp"
  rw [b4]
  simp only [mH, atI_1, atI_2, x4, e4']
  exact ⟨trivial, by rw [List.length_map, sizeLine_val]; omega, hq _ _ l5 rfl (((o1.trans o3).trans o4).trans o5)⟩
section
variable {S S' : Sto} {aP aS aP' aS' : PR → Addr} {P P2 P' : PS} {F E F' E' : Fp}
theorem Own.w1 (ow : Own (P.fp aP) S (P'.fp aP') S') : Own (f4 aP aS P P2 F E) S (f4 aP' aS P' P2 F E) S' := ⟨fun q o n e => ow.fr q o (fun z => n (.inl z)) e, fun q h => h.elim (fun z => (ow.nw q z).imp .inl id) fun z => .inl (.inr z)⟩
theorem Own.w2 (ow : Own (P2.fp aS) S (P'.fp aS') S') : Own (f4 aP aS P P2 F E) S (f4 aP aS' P P' F E) S' := ⟨fun q o n e => ow.fr q o (fun z => n (.inr (.inl z))) e, fun q h => h.elim (fun z => .inl (.inl z)) fun z => z.elim (fun z => (ow.nw q z).imp (fun z => .inr (.inl z)) id) fun z => .inl (.inr (.inr z))⟩
theorem Own.w3 (ow : Own F S F' S') : Own (f4 aP aS P P2 F E) S (f4 aP aS P P2 F' E) S' := ⟨fun q o n e => ow.fr q o (fun z => n (.inr (.inr (.inl z)))) e, fun q h => h.elim (fun z => .inl (.inl z)) fun z => z.elim (fun z => .inl (.inr (.inl z))) fun z => z.elim (fun z => (ow.nw q z).imp (fun z => .inr (.inr (.inl z))) id) fun z => .inl (.inr (.inr (.inr z)))⟩
theorem Own.w4 (ow : Own E S E' S') : Own (f4 aP aS P P2 F E) S (f4 aP aS P P2 F E') S' := ⟨fun q o n e => ow.fr q o (fun z => n (.inr (.inr (.inr z)))) e, fun q h => h.elim (fun z => .inl (.inl z)) fun z => z.elim (fun z => .inl (.inr (.inl z))) fun z => z.elim (fun z => .inl (.inr (.inr (.inl z)))) fun z => (ow.nw q z).imp (fun z => .inr (.inr (.inr z))) id⟩
end
theorem PV.open {P : PS} {m nw pp t x y w h : Int} (v : PV P m) (t0 : 0 ≤ t) (t1 : t < m) (hw : 1 ≤ w) (hh : 1 ≤ h) : PV (opOpen P (nw + 1) ⟨pp, t, x, y, w, h, 0, 0, false⟩) m := fun k hk => by
  show 0 ≤ (upI P.f (nw + 1) _ k).sh ∧ _
  by_cases c : k = nw + 1
  · subst c
    show 0 ≤ (upI P.f (nw + 1) _ (nw + 1)).sh ∧ (upI P.f (nw + 1) _ (nw + 1)).sh < m ∧ 1 ≤ (upI P.f (nw + 1) _ (nw + 1)).w ∧ 1 ≤ (upI P.f (nw + 1) _ (nw + 1)).h
    rw [upI_same]; exact ⟨t0, t1, hw, hh⟩
  · have hk' : k ∈ P.kf := by
      rcases List.mem_append.mp hk with z | z
      · exact z
      · exact (c (List.mem_singleton.mp z)).elim
    show 0 ≤ (upI P.f (nw + 1) _ k).sh ∧ (upI P.f (nw + 1) _ k).sh < m ∧ 1 ≤ (upI P.f (nw + 1) _ k).w ∧ 1 ≤ (upI P.f (nw + 1) _ k).h
    rw [upI_ne c]; exact v k hk'
theorem GrsAt.top {cl : Nat → Addr} {S : Sto} {md : Addr} {T : List Gr} {E : Fp} (h : GrsAt cl S md T E) : E md ∧ ∃ gs : List W, gs.length = T.length ∧ S md = some (.lst gs) := by
  obtain ⟨h1, gs, h2, _⟩ := h.read
  exact ⟨h1, _, by rw [List.length_map, List.length_range], h2⟩
theorem opened_call {G : Gs} (hG435 : G 435 = sp_Panes_open_pane G.cl) {D : MEnds} {S0 S : Sto} {aP aS : PR → Addr} {s gd : Addr} {nw : Int} {P : PS} {d : Int → Nat} {H : Shs} {F E : Fp} {ra : Addr} {rs : List Int} {n : Nat} {pp x y w h : Int} {a3 a5 : Option W}
    (j : JM G.cl S0 S aP aS s gd nw P d nw P d H H.gr F E) (hra : S ra = some (.lst (rs.map W.int))) (hr : DrOk rs n) (hn : 5 ≤ n) (nra : ¬ f4 aP aS P P F E ra) (t1 : 1 ≤ H.gr.length) (t2 : H.gr.length ≤ 100) (hl : P.kf.length ≤ 40) (hpp : pp ∈ P.kl) (hw : 1 ≤ w) (hh : 1 ≤ h) (hbd : ∀ t, FcB ⟨pp, t, x, y, w, h, 0, 0, false⟩)
    (hq : DOut G.cl S0 S aP aS s gd nw P H F E (P.kf.length + 1) (fun S' => ∀ v, D.rt v S')) :
    wpSs G ir_law_opened_t6 D [some (.ref (aP .obj)), some (.ref (aS .obj)), some (.ref ra), a3, some (.int pp), a5, some (.int x), some (.int y), some (.int w), some (.int h), none] S := by
  have l := j.st
  have wf := j.wf
  unfold ir_law_opened_t6
  show wpSs G (.cons _ ir_law_opened_t7) _ _ _
  generalize hR : ir_law_opened_t7 = R
  walk_at "wp"
  have a2 : atI (rs.map W.int) 2 = some (.int (rg rs 2)) := rg_ix hr (i := 2) (by omega)
  obtain ⟨egd, gs, hgl, hgd⟩ := j.gr.top
  simp only [hra, a2, m_obj l, atI_3, len_ref, hgd]
  rw [bin_mod]
  refine ⟨j.pn.ins (by decide +kernel), by omega, ?_⟩
  obtain ⟨t, ht⟩ := Int.eq_ofNat_of_zero_le (Int.emod_nonneg (rg rs 2) (show (gs.length : Int) ≠ 0 by omega))
  have t9 := Int.emod_lt_of_pos (rg rs 2) (show (0 : Int) < gs.length by omega)
  rw [ht] at t9 ⊢
  have hb : (PRow.open pp t x y w h).bad P d H.gr.length = none := (if_neg (fun z => z hpp)).trans ((if_neg (by omega)).trans (if_neg (by omega)))
  simp only [hG435]
  refine ⟨aP, s, nw, P, d, H.gr.length, pp, t, x, y, w, h, rfl, j.ctx (by omega) (by omega), POut.of (fun _ => fun aP' S1 l' e1 ow => ?_) fun m e => by rw [hb] at e; cases e⟩
  obtain ⟨d', w', j'⟩ := j.deed hb l' ow
  have of := ow.w1 (aS := aS) (P2 := P) (F := F) (E := E)
  have nst : ¬ P.fp aS ra := fun z => nra (.inr (.inl z))
  have npn : ¬ P.fp aP ra := fun z => nra (.inl z)
  have ngp : ¬ P.fp aP gd := fun z => j.pE _ z egd
  have ngs : ¬ P.fp aS gd := fun z => j.sE _ z egd
  rw [← hR]
  refine opened_own j'.st wf hl hpp (ow.fr _ _ npn hra) nst (ow.fr _ _ ngp hgd) ngs a2 (by omega) ht fun aS' S2 l2 e2 ow2 => ?_
  exact hq aP' aS' (nw + 1) _ d' H F E S2 (j'.done l2 w' ow2) e1 e2 (by show (P.kf ++ [nw + 1]).length ≤ _; rw [List.length_append, List.length_singleton]; omega) (by omega) (by omega) (fun v => ⟨v.1.open (by omega) (by omega) hw hh, v.2.op wf hb (hbd t)⟩) (of.trans ow2.w2) _
theorem away_ok {far : Int} (hf : FarOk far) {b : Bool} {Q : W → Prop} (h : ∀ a, FarOk a → Q (.int a)) : intW (.bl b) fun w => binW .mul (.int far) w Q := by
  obtain ⟨h1, h2⟩ := hf
  unfold intW
  dsimp only
  rw [bin_mul]
  cases b
  · exact ⟨mulOk_of (by omega) (by omega) (by decide) (by decide), h _ ⟨by show _ < far * 0; omega, by show far * 0 < _; omega⟩⟩
  · exact ⟨mulOk_of (by omega) (by omega) (by decide) (by decide), h _ ⟨by show _ < far * 1; omega, by show far * 1 < _; omega⟩⟩
theorem pf_law_opened (G : Gs) (hG435 : G 435 = sp_Panes_open_pane G.cl) (ws : List W) (S : Sto) (Q : WQ) (X : XQ) (h : sp_law_opened G.cl ws S Q X) : ws.length = 4 ∧ wpF G 11 ir_law_opened ws S Q X := by
  obtain ⟨S0, aP, aS, s, gd, nw, P, d, H, F, E, ra, rs, n, far, rfl, j, hra, hr, hn, nra, hfar, t1, t2, hl, hq⟩ := h
  refine ⟨rfl, ?_⟩
  have sz : ∀ {n : Nat}, n ≤ 1000 → n ≤ sizeLine := fun h => by rw [sizeLine_val]; omega
  have l := j.st
  have w := j.wf
  unfold wpF ir_law_opened
  show wpSs G (.cons _ ir_law_opened_t1) _ _ _
  generalize hR : ir_law_opened_t1 = R
  walk_at "wp"
  simp only [wt_srtd2]
  walk_at "wp"
  simp only [m_obj l, atI_0]
  have a1 : atI (rs.map W.int) 1 = some (.int (rg rs 1)) := rg_ix hr (i := 1) (by omega)
  have a2 : atI (rs.map W.int) 2 = some (.int (rg rs 2)) := rg_ix hr (i := 2) (by omega)
  have a3 : atI (rs.map W.int) 3 = some (.int (rg rs 3)) := rg_ix hr (i := 3) (by omega)
  have a4 : atI (rs.map W.int) 4 = some (.int (rg rs 4)) := rg_ix hr (i := 4) (by omega)
  simp only [hra, a1, a3, a4]
  have lf : lenW (.ref (aS .facts)) S = some P.kf.length := by rw [len_ref, l.facts]; show some (P.kf.map _).length = _; rw [List.length_map]
  refine ⟨sz (by decide), srt_keys l.facts w.inc (by omega) ⟨nofun, nofun, by rw [List.length_map]; exact sz (by omega), ?_⟩⟩
  rw [lf]
  dsimp only
  rw [bin_mod]
  refine ⟨by omega, ?_⟩
  obtain ⟨v, hv⟩ := Int.eq_ofNat_of_zero_le (Int.emod_nonneg (rg rs 1) (show ((P.kf.length : Int) + 2) ≠ 0 by omega))
  have v1 := Int.emod_lt_of_pos (rg rs 1) (show (0 : Int) < (P.kf.length : Int) + 2 by omega)
  rw [hv] at v1 ⊢
  dsimp only
  obtain ⟨pp, epp, hpp⟩ : ∃ pp : Int, atI (.int 0 :: .int 0 :: P.kf.map W.int) (v : Int) = some (.int pp) ∧ pp ∈ P.kl := by
    have z0 : (0 : Int) ∈ P.kl := by rw [w.kl]; exact List.mem_cons_self ..
    rcases v with _ | _ | v
    · exact ⟨0, atI_nat rfl, z0⟩
    · exact ⟨0, atI_nat rfl, z0⟩
    · have hv' : v < P.kf.length := by push_cast at v1; omega
      exact ⟨P.kf[v], atI_nat (by show (P.kf.map W.int)[v]? = _; rw [List.getElem?_map, List.getElem?_eq_getElem hv']; rfl), w.kl_of (List.getElem_mem hv')⟩
  rw [epp]
  dsimp only
  rw [← hR]
  unfold ir_law_opened_t1
  show wpSs G (.cons _ ir_law_opened_t2) _ _ _
  generalize hR2 : ir_law_opened_t2 = R2
  walk_at "wp"
  have fin : ∀ a, FarOk a → wpSs G R2 { nx := fun _ S' => ∃ S2, Sub S2 S' ∧ Q W.non S2, rt := fun w S' => ∃ S2, Sub S2 S' ∧ Q w S2, bk := fun _ _ => False, ct := fun _ _ => False, ex := fun _ C S' => ∃ S2, Sub S2 S' ∧ X C S2 } [some (.ref (aP .obj)), some (.ref (aS .obj)), some (.ref ra), some (.int far), some (.int pp), some (.int a), none, none, none, none, none] S := fun a ha => by
    rw [← hR2]
    unfold ir_law_opened_t2
    show wpSs G (.cons _ (.cons _ (.cons _ (.cons _ ir_law_opened_t6)))) _ _ _
    generalize hR3 : ir_law_opened_t6 = R3
    walk_at "wp"
    simp only [hra, a3, a4]
    have k4 := (rg_at hr (i := 4) (by omega)).2.1
    have m9 : 0 ≤ rg rs 4 % 9 := Int.emod_nonneg _ (by decide)
    have m7 : 0 ≤ rg rs 4 / 9 % 7 := Int.emod_nonneg _ (by decide)
    rw [bin_mod]
    refine ⟨by decide, ?_⟩
    rw [bin_sub, bin_addI, bin_fdiv]
    refine ⟨⟨by decide, by decide +kernel⟩, ?_⟩
    rw [bin_mod]
    refine ⟨by decide, ?_⟩
    rw [bin_sub, bin_sub, bin_mod]
    refine ⟨by decide, ?_⟩
    rw [bin_addI]
    refine ⟨sz (by decide), ?_⟩
    rw [bin_fdiv]
    refine ⟨⟨by decide, by decide +kernel⟩, ?_⟩
    rw [bin_mod]
    refine ⟨by decide, ?_⟩
    rw [cmp_eqI]
    generalize decide (rg rs 4 / 63 % 16 = 5) = b1
    have fin2 : ∀ w : Int, 1 ≤ w ∧ w ≤ 10 ^ 65 → ∀ h : Int, 1 ≤ h ∧ h ≤ 10 ^ 65 → wpSs G R3 { nx := fun _ S' => ∃ S2, Sub S2 S' ∧ Q W.non S2, rt := fun w S' => ∃ S2, Sub S2 S' ∧ Q w S2, bk := fun _ _ => False, ct := fun _ _ => False, ex := fun _ C S' => ∃ S2, Sub S2 S' ∧ X C S2 } [some (.ref (aP .obj)), some (.ref (aS .obj)), some (.ref ra), some (.int far), some (.int pp), some (.int a), some (.int (rg rs 3 % 17 - 5 + a)), some (.int (rg rs 3 / 17 % 13 - 4 - a)), some (.int w), some (.int h), none] S := fun w hw h hh => by
      rw [← hR3]
      have hfa0 := ha.1
      have hfa1 := ha.2
      exact opened_call hG435 j hra hr hn nra t1 t2 hl hpp hw.1 hh.1 (fun t => ⟨⟨by dsimp only; omega, by dsimp only; omega⟩, ⟨by dsimp only; omega, by dsimp only; omega⟩, ⟨by dsimp only; omega, hw.2⟩, ⟨by dsimp only; omega, hh.2⟩, ⟨by dsimp only; omega, by dsimp only; omega⟩, ⟨by dsimp only; omega, by dsimp only; omega⟩⟩) fun aP' aS' nw' P' d' H' F' E' S' b1 b2 b3 b4 b5 b6 b7 b8 v => ⟨_, Sub.refl _, hq aP' aS' nw' P' d' H' F' E' S' b1 b2 b3 b4 b5 b6 b7 b8 v⟩
    have nxt : ∀ w : Int, 1 ≤ w ∧ w ≤ 10 ^ 65 → binW .fdiv (.int (rg rs 4)) (.int 9) fun z_10 => binW .mod z_10 (.int 7) fun z_11 => binW .add (.int 1) z_11 fun z_12 => 2 ≤ sizeLine ∧ binW .fdiv (.int (rg rs 4)) (.int 1008) fun z_13 => binW .mod z_13 (.int 16) fun z_14 => cmpW .eq z_14 (.int 5) fun z_15 => intW (.bl z_15) fun w_1 => match w_1 with
      | .int k => (match atI [z_12, .int 100000000000000000000000000000000000000000000000000000000000] k with
        | some w_1 => wpSs G R3 { nx := fun _ S' => ∃ S2, Sub S2 S' ∧ Q W.non S2, rt := fun w S' => ∃ S2, Sub S2 S' ∧ Q w S2, bk := fun _ _ => False, ct := fun _ _ => False, ex := fun _ C S' => ∃ S2, Sub S2 S' ∧ X C S2 } [some (.ref (aP .obj)), some (.ref (aS .obj)), some (.ref ra), some (.int far), some (.int pp), some (.int a), some (.int (rg rs 3 % 17 - 5 + a)), some (.int (rg rs 3 / 17 % 13 - 4 - a)), some (.int w), some w_1, none] S
        | none => False)
      | _ => False := fun w hw => by
      rw [bin_fdiv]
      refine ⟨⟨by decide, by decide +kernel⟩, ?_⟩
      rw [bin_mod]
      refine ⟨by decide, ?_⟩
      rw [bin_addI]
      refine ⟨sz (by decide), ?_⟩
      rw [bin_fdiv]
      refine ⟨⟨by decide, by decide +kernel⟩, ?_⟩
      rw [bin_mod]
      refine ⟨by decide, ?_⟩
      rw [cmp_eqI]
      generalize decide (rg rs 4 / 1008 % 16 = 5) = b2
      cases b2
      · simp only [intW, Bool.false_eq_true, if_false, atI_0]
        exact fin2 w hw _ ⟨by omega, by omega⟩
      · simp only [intW, if_true, atI_1]
        exact fin2 w hw _ ⟨by decide, by decide⟩
    cases b1
    · simp only [intW, Bool.false_eq_true, if_false, atI_0]
      exact nxt _ ⟨by omega, by omega⟩
    · simp only [intW, if_true, atI_1]
      exact nxt _ ⟨by decide, by decide⟩
  simp only [hra, a3]
  split
  · exact away_ok hfar fin
  · rw [bin_fdiv]
    refine ⟨⟨by decide, by decide +kernel⟩, ?_⟩
    rw [bin_mod]
    refine ⟨by decide, ?_⟩
    rw [cmp_eqI]
    exact away_ok hfar fin
def sp_law_ordered_v2 (cl : Nat → Addr) : MSp := fun ws S Q _ => ∃ (S0 : Sto) (aP aS : PR → Addr) (s gd : Addr) (nw : Int) (P : PS) (d : Int → Nat) (H : Shs) (F E : Fp) (ra : Addr) (rs : List Int) (n : Nat) (k : Int), ws = [.ref (aP .obj), .ref (aS .obj), .int k, .ref ra] ∧ JM cl S0 S aP aS s gd nw P d nw P d H H.gr F E ∧ k ∈ P.kf ∧ S ra = some (.lst (rs.map W.int)) ∧ DrOk rs n ∧ 5 ≤ n ∧ ¬ f4 aP aS P P F E ra ∧ 1 ≤ H.gr.length ∧ H.gr.length ≤ 100 ∧ P.kf.length ≤ 40 ∧ DOut cl S0 S aP aS s gd nw P H F E P.kf.length (Q .non)
def N_law_ordered_v2 : List Str := ["panes", "m", "pane", "r", "brothers", "others", "one", "word", "brother", "some", "parent"]
def ir_law_ordered_v2 : ISs := .cons (.set 4 (.idx (.idx (.var 1) (.cst (.int 1))) (.idx (.idx (.idx (.var 1) (.cst (.int 0))) (.var 2)) (.cst (.int 0))))) (.cons (.set 5 (.mat (.compif (.var 6) (.cmp .ne (.var 6) (.var 2)) (.nm 6) (.lst (.of (.var 4))) [6]))) (.cons (.set 7 (.bin .mod (.bin .fdiv (.idx (.var 3) (.cst (.int 0))) (.cst (.int 16))) (.cst (.int 4)))) (.cons (.iff (.or (.cmp .eq (.var 7) (.cst (.int 0))) (.and (.cmp .eq (.var 7) (.cst (.int 2))) (.eql true (.of (.var 5)) (.t (.dsp (.nil)))))) (.cons (.exp (.meth 440 11 "lift" (.var 0) (.cons (.var 2) .nil))) (.cons (.exp (.rem (.var 4) (.var 2))) (.cons (.exp (.app (.var 4) (.var 2))) .nil))) (.cons (.iff (.cmp .eq (.var 7) (.cst (.int 1))) (.cons (.exp (.meth 441 11 "sink" (.var 0) (.cons (.var 2) .nil))) (.cons (.exp (.rem (.var 4) (.var 2))) (.cons (.exp (.ins (.var 4) (.cst (.int 0)) (.var 2))) .nil))) (.cons (.iff (.cmp .eq (.var 7) (.cst (.int 2))) (.cons (.set 8 (.idx (.var 5) (.bin .mod (.idx (.var 3) (.cst (.int 2))) (.len (.var 5))))) (.cons (.exp (.meth 442 11 "put_over" (.var 0) (.cons (.var 2) (.cons (.var 8) .nil)))) (.cons (.exp (.rem (.var 4) (.var 2))) (.cons (.exp (.ins (.var 4) (.bin .add (.ixo (.var 4) (.var 8)) (.cst (.int 1))) (.var 2))) .nil)))) (.cons (.set 9 (.mat (.compif (.var 6) (.not (.call 179 (.cons (.var 1) (.cons (.var 2) (.cons (.var 6) .nil))))) (.nm 6) (.lst (.t (.cat (.t (.dsp (.cons (.cst (.int 0)) .nil))) (.t (.srtd (.idx (.var 1) (.cst (.int 0)))))))) [6]))) (.cons (.set 10 (.idx (.var 9) (.bin .mod (.idx (.var 3) (.cst (.int 2))) (.len (.var 9))))) (.cons (.exp (.meth 443 11 "put_into" (.var 0) (.cons (.var 2) (.cons (.var 10) .nil)))) (.cons (.exp (.rem (.var 4) (.var 2))) (.cons (.exp (.app (.idx (.idx (.var 1) (.cst (.int 1))) (.var 10)) (.var 2))) (.cons (.asg (.sub (.idx (.idx (.var 1) (.cst (.int 0))) (.var 2)) (.cst (.int 0))) (.var 10)) .nil))))))) .nil)) .nil)) .nil)))
def ir_law_ordered_v2_t3 : ISs := .cons (.iff (.or (.cmp .eq (.var 7) (.cst (.int 0))) (.and (.cmp .eq (.var 7) (.cst (.int 2))) (.eql true (.of (.var 5)) (.t (.dsp (.nil)))))) (.cons (.exp (.meth 440 11 "lift" (.var 0) (.cons (.var 2) .nil))) (.cons (.exp (.rem (.var 4) (.var 2))) (.cons (.exp (.app (.var 4) (.var 2))) .nil))) (.cons (.iff (.cmp .eq (.var 7) (.cst (.int 1))) (.cons (.exp (.meth 441 11 "sink" (.var 0) (.cons (.var 2) .nil))) (.cons (.exp (.rem (.var 4) (.var 2))) (.cons (.exp (.ins (.var 4) (.cst (.int 0)) (.var 2))) .nil))) (.cons (.iff (.cmp .eq (.var 7) (.cst (.int 2))) (.cons (.set 8 (.idx (.var 5) (.bin .mod (.idx (.var 3) (.cst (.int 2))) (.len (.var 5))))) (.cons (.exp (.meth 442 11 "put_over" (.var 0) (.cons (.var 2) (.cons (.var 8) .nil)))) (.cons (.exp (.rem (.var 4) (.var 2))) (.cons (.exp (.ins (.var 4) (.bin .add (.ixo (.var 4) (.var 8)) (.cst (.int 1))) (.var 2))) .nil)))) (.cons (.set 9 (.mat (.compif (.var 6) (.not (.call 179 (.cons (.var 1) (.cons (.var 2) (.cons (.var 6) .nil))))) (.nm 6) (.lst (.t (.cat (.t (.dsp (.cons (.cst (.int 0)) .nil))) (.t (.srtd (.idx (.var 1) (.cst (.int 0)))))))) [6]))) (.cons (.set 10 (.idx (.var 9) (.bin .mod (.idx (.var 3) (.cst (.int 2))) (.len (.var 9))))) (.cons (.exp (.meth 443 11 "put_into" (.var 0) (.cons (.var 2) (.cons (.var 10) .nil)))) (.cons (.exp (.rem (.var 4) (.var 2))) (.cons (.exp (.app (.idx (.idx (.var 1) (.cst (.int 1))) (.var 10)) (.var 2))) (.cons (.asg (.sub (.idx (.idx (.var 1) (.cst (.int 0))) (.var 2)) (.cst (.int 0))) (.var 10)) .nil))))))) .nil)) .nil)) .nil
theorem set_fcl {S : Sto} {a : Addr} {f : Fc} {i : Int} {w : W} {Q : Sto → Prop} (ha : S a = some (.lst (fcL f))) (j : Nat) (hj : ixN 9 i = some j) (hq : Q (put S a (.lst ((fcL f).set j w)))) : setW (.ref a) (.int i) w S Q := by
  rw [set_refI, ha]
  show (match ixN 9 i with
    | some j => Q (put S a (.lst ((fcL f).set j w)))
    | none => False)
  rw [hj]; exact hq
theorem DOut.same {cl : Nat → Addr} {S0 S S' S2 : Sto} {aP aS aP' aS' : PR → Addr} {s gd : Addr} {nw : Int} {P : PS} {d d' : Int → Nat} {H : Shs} {F E : Fp} {Q : Sto → Prop} {row : PRow} (hq : DOut cl S0 S aP aS s gd nw P H F E P.kf.length Q) (j : JM cl S0 S aP aS s gd nw P d nw P d H H.gr F E) (hb : row.bad P d H.gr.length = none) (hn : row.nw nw = nw) (hrb : RowB row)
    (j' : JM cl S0 S' aP' aS s gd (row.nw nw) (row.op P d nw) d' nw P d H H.gr F E) (w' : PWf (row.op P d nw) (row.nw nw) d') (e1 : aP' .obj = aP .obj) (ow : Own (P.fp aP) S ((row.op P d nw).fp aP') S')
    (l2 : PLay S2 (mH (row.nw nw) gd) (row.op P d nw) aS') (e2 : aS' .obj = aS .obj) (ow2 : Own (P.fp aS) S' ((row.op P d nw).fp aS') S2) : Q S2 :=
  hq aP' aS' (row.nw nw) _ d' H F E S2 (j'.done l2 w' ow2) e1 e2 (op_len2 hn) (by omega) (by omega) (fun v => ⟨v.1.op j.wf hb, v.2.op j.wf hb hrb⟩) (Own.trans ow.w1 ow2.w2)
theorem pf_law_ordered_v2 (G : Gs) (hG440 : G 440 = sp_Panes_lift G.cl) (hG441 : G 441 = sp_Panes_sink G.cl) (hG442 : G 442 = sp_Panes_put_over G.cl) (hG443 : G 443 = sp_Panes_put_into G.cl) (hG179 : G 179 = sp_law_within_v2) (ws : List W) (S : Sto) (Q : WQ) (X : XQ) (h : sp_law_ordered_v2 G.cl ws S Q X) : ws.length = 4 ∧ wpF G 11 ir_law_ordered_v2 ws S Q X := by
  obtain ⟨S0, aP, aS, s, gd, nw, P, d, H, F, E, ra, rs, n, k, rfl, j, hk, hra, hr, hn, nra, t1, t2, hl, hq⟩ := h
  refine ⟨rfl, ?_⟩
  have sz : ∀ {n : Nat}, n ≤ 1000 → n ≤ sizeLine := fun h => by rw [sizeLine_val]; omega
  have l := j.st
  have w := j.wf
  have hp := w.par k hk
  have hkc : k ∈ P.c (P.f k).par := (w.ch _ hp k).mpr ⟨hk, rfl⟩
  have hcl := nd_lenI w hp
  unfold wpF ir_law_ordered_v2
  show wpSs G (.cons _ (.cons _ (.cons _ ir_law_ordered_v2_t3))) _ _ _
  generalize hR : ir_law_ordered_v2_t3 = R
  walk_at "wp"
  simp only [m_obj l, atI_1, atI_0, l.idxF hk, fc_at l hk]
  rw [show atI (fcL (P.f k)) 0 = some (.int (P.f k).par) from rfl]
  simp only [l.idxL hp, l.list hp]
  refine CompIfG.map (P.c (P.f k).par) W.int W.int (fun j => decide (j ≠ k)) rfl (by omega) (l.list hp) (fun a ha Q' R hy hn => ?_) fun q hq0 => ?_
  · walk_at "wp"
    by_cases c : a = k
    · rw [if_neg (by simpa using c)]
      exact hn (by simpa using c)
    · rw [if_pos (by simpa using c)]
      exact hy (by simpa using c)
  generalize hbr : (P.c (P.f k).par).filter (fun j => decide (j ≠ k)) = br
  have hbl : br.length ≤ 62 := by rw [← hbr]; exact Nat.le_trans (List.length_filter_le _ _) (by omega)
  have bm : ∀ {b}, b ∈ br → b ∈ P.kf ∧ (P.f b).par = (P.f k).par ∧ b ≠ k := fun {b} hb => by
    rw [← hbr, List.mem_filter, decide_eq_true_iff] at hb
    have := (w.ch _ hp b).mp hb.1
    exact ⟨this.1, this.2, hb.2⟩
  have sb : Sub S (put S q (.lst (br.map W.int))) := Sub.put hq0
  have j1 := j.less sb
  have hq1 : put S q (.lst (br.map W.int)) q = some (.lst (br.map W.int)) := put_same
  have hra1 := sb _ _ hra
  have nq : ¬ f4 aP aS P P F E q := fun z => j.known z hq0
  have hq' : DOut G.cl S0 (put S q (.lst (br.map W.int))) aP aS s gd nw P H F E P.kf.length (Q .non) := fun aP' aS' nw' P' d' H' F' E' S' b1 b2 b3 b4 b5 b6 b7 b8 => hq aP' aS' nw' P' d' H' F' E' S' b1 b2 b3 b4 b5 b6 b7 ((Own.of_sub sb).trans b8)
  generalize put S q (.lst (br.map W.int)) = S1 at *
  have a0 : atI (rs.map W.int) 0 = some (.int (rg rs 0)) := rg_ix hr (i := 0) (by omega)
  have a2 : atI (rs.map W.int) 2 = some (.int (rg rs 2)) := rg_ix hr (i := 2) (by omega)
  simp only [hra1, a0]
  rw [bin_fdiv]
  refine ⟨⟨by decide, by decide +kernel⟩, ?_⟩
  rw [bin_mod]
  refine ⟨by decide, ?_⟩
  have w0 : 0 ≤ rg rs 0 / 16 % 4 := Int.emod_nonneg _ (by decide)
  have w1 : rg rs 0 / 16 % 4 < 4 := Int.emod_lt_of_pos _ (by decide)
  generalize rg rs 0 / 16 % 4 = wd at *
  have l1 := j1.st
  have lst1 := l1.list hp
  have rk := rmv_len (k := k) (l := P.c (P.f k).par)
  rw [← hR]
  unfold ir_law_ordered_v2_t3
  walk_at "wp"
  have hbL : (PRow.lift k).bad P d H.gr.length = none := if_neg (fun z => z hk)
  have lift : isIns (.ref (aP .obj)) (G.cl 11) "lift" S1 ∧ G.fn 440 [.ref (aP .obj), .int k] S1 (fun _ S1 => (match S1 (aS (.list (P.f k).par)) with
          | some (.lst _) => True
          | _ => False) ∧ remW (.ref (aS (.list (P.f k).par))) (.int k) S1 fun S3 => (match S3 (aS (.list (P.f k).par)) with
            | some (.lst _) => True
            | _ => False) ∧ match S3 (aS (.list (P.f k).par)) with
            | some (.lst ws) => ws.length < sizeLine ∧ ∃ S2, Sub S2 (put S3 (aS (.list (P.f k).par)) (.lst (ws ++ [W.int k]))) ∧ Q W.non S2
            | _ => False) fun C S' => ∃ S2, Sub S2 S' ∧ X C S2 := by
    simp only [hG440]
    refine ⟨j1.pn.ins (by decide +kernel), aP, s, nw, P, d, H.gr.length, k, rfl, j1.ctx (by omega) (by omega), POut.of (fun _ => fun aP' S2 l' e1 ow => ?_) fun m e => by rw [hbL] at e; cases e⟩
    obtain ⟨d', w', j'⟩ := j1.deed (row := .lift k) hbL l' ow
    have l2 := j'.st
    rw [l2.list hp]
    refine ⟨trivial, rem_list (l2.list hp) hkc ?_⟩
    rw [put_same]
    refine ⟨trivial, by rw [List.length_map, sizeLine_val]; omega, ?_⟩
    rw [put_put]
    have l3 := l2.setC hp (l := rmv k (P.c (P.f k).par) ++ [k])
    rw [List.map_append] at l3
    exact ⟨_, Sub.refl _, hq'.same j1 hbL rfl trivial j' w' e1 ow l3 rfl (own_list hp)⟩
  have wcase : wd = 0 ∨ wd = 1 ∨ wd = 2 ∨ wd = 3 := by omega
  rcases wcase with rfl | rfl | rfl | rfl
  · rw [if_pos rfl]
    exact lift
  · rw [if_neg (by decide), if_neg (by decide), if_pos rfl]
    have hbS : (PRow.sink k).bad P d H.gr.length = none := if_neg (fun z => z hk)
    simp only [hG441]
    refine ⟨j1.pn.ins (by decide +kernel), aP, s, nw, P, d, H.gr.length, k, rfl, j1.ctx (by omega) (by omega), POut.of (fun _ => fun aP' S2 l' e1 ow => ?_) fun m e => by rw [hbS] at e; cases e⟩
    obtain ⟨d', w', j'⟩ := j1.deed (row := .sink k) hbS l' ow
    have l2 := j'.st
    rw [l2.list hp]
    refine ⟨trivial, rem_list (l2.list hp) hkc ?_⟩
    rw [put_same]
    refine ⟨trivial, ?_⟩
    unfold lstW
    dsimp only
    rw [put_same]
    dsimp only
    refine ⟨by rw [List.length_map, sizeLine_val]; omega, by decide, by decide, ?_⟩
    rw [put_put]
    exact ⟨_, Sub.refl _, hq'.same j1 hbS rfl trivial j' w' e1 ow (l2.setC hp (l := k :: rmv k (P.c (P.f k).par))) rfl (own_list hp)⟩
  · rw [if_neg (by decide), if_pos rfl, hq1]
    refine ⟨Nat.zero_le _, nofun, nofun, rfl, EncOk.eqsOk (d := 0) EncOk.int (by decide) br, EncOk.eqsOk (d := 0) EncOk.int (by decide) [], ?_⟩
    rw [show W.eqvs (br.map W.int) [] = decide (br = []) from EncOk.eqvs (d := 0) EncOk.int br []]
    by_cases c1 : br = []
    · rw [if_pos (by simp [c1])]
      exact lift
    rw [if_neg (by simp [c1]), if_neg (by decide), if_pos rfl]
    have hbl0 : 0 < br.length := List.length_pos_iff.mpr c1
    simp only [hra1, a2, List.length_map]
    rw [bin_mod]
    refine ⟨by omega, ?_⟩
    obtain ⟨v, hv⟩ := Int.eq_ofNat_of_zero_le (Int.emod_nonneg (rg rs 2) (show (br.length : Int) ≠ 0 by omega))
    have v9 := Int.emod_lt_of_pos (rg rs 2) (show (0 : Int) < br.length by omega)
    rw [hv] at v9 ⊢
    have hv' : v < br.length := by omega
    rw [idx_ref, hq1]
    dsimp only
    rw [show atI (br.map W.int) (v : Int) = some (.int br[v]) from atI_nat (by rw [List.getElem?_map, List.getElem?_eq_getElem hv']; rfl)]
    dsimp only
    obtain ⟨b1, b2, b3⟩ := bm (List.getElem_mem hv')
    generalize br[v] = b at *
    have hbO : (PRow.over k b).bad P d H.gr.length = none := (if_neg (fun z => z hk)).trans ((if_neg (fun z => z b1)).trans (if_neg (fun z => z.elim (fun z => z b2) b3)))
    have hbc : b ∈ rmv k (P.c (P.f k).par) := (rmv_mem (w.nd _ hp)).mpr ⟨(w.ch _ hp b).mpr ⟨b1, b2⟩, b3⟩
    simp only [hG442]
    refine ⟨j1.pn.ins (by decide +kernel), aP, s, nw, P, d, H.gr.length, k, b, rfl, j1.ctx (by omega) (by omega), POut.of (fun _ => fun aP' S2 l' e1 ow => ?_) fun m e => by rw [hbO] at e; cases e⟩
    obtain ⟨d', w', j'⟩ := j1.deed (row := .over k b) hbO l' ow
    have l2 := j'.st
    rw [l2.list hp]
    refine ⟨trivial, rem_list (l2.list hp) hkc ?_⟩
    rw [put_same]
    refine ⟨trivial, trivial, ixo_list put_same hbc fun i h1 h2 => ?_⟩
    rw [bin_addI]
    have hj := (List.getElem?_eq_some_iff.mp h1).1
    unfold lstW
    dsimp only
    rw [put_same]
    dsimp only
    refine ⟨by rw [List.length_map, sizeLine_val]; omega, by omega, by omega, ?_⟩
    rw [put_put, show ((i : Int) + 1).toNat = i + 1 by omega, ← List.map_take, ← List.map_drop]
    have e9 : ((rmv k (P.c (P.f k).par)).take (i + 1)).map W.int ++ [W.int k] ++ ((rmv k (P.c (P.f k).par)).drop (i + 1)).map W.int = (insA b k (rmv k (P.c (P.f k).par))).map W.int := by
      rw [← ix_insA h1 h2]; simp
    rw [e9]
    exact ⟨_, Sub.refl _, hq'.same j1 hbO rfl trivial j' w' e1 ow (l2.setC hp (l := insA b k (rmv k (P.c (P.f k).par)))) rfl (own_list hp)⟩
  · rw [if_neg (by decide), if_neg (by decide), if_neg (by decide), if_neg (by decide)]
    refine ⟨sz (by decide), ?_⟩
    rw [wt_srtd2]
    walk_at "wp"
    simp only [m_obj l1, atI_0]
    refine srt_keys l1.facts w.inc (by omega) ⟨nofun, nofun, by rw [List.length_map, sizeLine_val]; omega, ?_⟩
    refine CompIfG.map (0 :: P.kf) W.int W.int (fun j => decide (k ∉ chn P (d j) j)) rfl (by rw [List.length_cons]; omega) trivial (fun a ha Q' R hy hn => ?_) fun q2 hq2 => ?_
    · walk_at "wp"
      simp only [hG179]
      refine ⟨aS, nw, gd, P, nw, d, k, a, rfl, l1, w, hk, by rw [w.kl]; exact ha, ?_⟩
      by_cases c : k ∈ chn P (d a) a
      · show asBl (.bl (decide (k ∈ chn P (d a) a))) _
        rw [decide_eq_true c]
        exact hn (by simpa using c)
      · show asBl (.bl (decide (k ∈ chn P (d a) a))) _
        rw [decide_eq_false c]
        exact hy (by simpa using c)
    generalize hso : (0 :: P.kf).filter (fun j => decide (k ∉ chn P (d j) j)) = so
    have sb2 : Sub S1 (put S1 q2 (.lst (so.map W.int))) := Sub.put hq2
    have j2 := j1.less sb2
    have hq3 : put S1 q2 (.lst (so.map W.int)) q2 = some (.lst (so.map W.int)) := put_same
    have hra2 := sb2 _ _ hra1
    have hq'' : DOut G.cl S0 (put S1 q2 (.lst (so.map W.int))) aP aS s gd nw P H F E P.kf.length (Q .non) := fun aP' aS' nw' P' d' H' F' E' S' b1 b2 b3 b4 b5 b6 b7 b8 => hq' aP' aS' nw' P' d' H' F' E' S' b1 b2 b3 b4 b5 b6 b7 ((Own.of_sub sb2).trans b8)
    generalize put S1 q2 (.lst (so.map W.int)) = S1' at *
    have sl : so.length ≤ 50 := by rw [← hso]; exact Nat.le_trans (List.length_filter_le _ _) (by rw [List.length_cons]; omega)
    have s0 : 0 < so.length := List.length_pos_of_mem (a := 0) (by rw [← hso, List.mem_filter]; exact ⟨List.mem_cons_self .., decide_eq_true (by rw [w.chn_0]; simp)⟩)
    simp only [hra2, a2, List.length_map]
    rw [bin_mod]
    refine ⟨by omega, ?_⟩
    obtain ⟨v, hv⟩ := Int.eq_ofNat_of_zero_le (Int.emod_nonneg (rg rs 2) (show (so.length : Int) ≠ 0 by omega))
    have v9 := Int.emod_lt_of_pos (rg rs 2) (show (0 : Int) < so.length by omega)
    rw [hv] at v9 ⊢
    have hv' : v < so.length := by omega
    rw [idx_ref, hq3]
    dsimp only
    rw [show atI (so.map W.int) (v : Int) = some (.int so[v]) from atI_nat (by rw [List.getElem?_map, List.getElem?_eq_getElem hv']; rfl)]
    dsimp only
    have bm2 : so[v] ∈ P.kl ∧ k ∉ chn P (d so[v]) so[v] := by
      have := List.getElem_mem hv'
      generalize so[v] = z at *
      rw [← hso, List.mem_filter, decide_eq_true_iff] at this
      exact ⟨by rw [w.kl]; exact this.1, this.2⟩
    obtain ⟨b1, b2⟩ := bm2
    generalize so[v] = pp at *
    have hbI : (PRow.into k pp).bad P d H.gr.length = none := (if_neg (fun z => z hk)).trans ((if_neg (fun z => z b1)).trans (if_neg b2))
    simp only [hG443]
    refine ⟨j2.pn.ins (by decide +kernel), aP, s, nw, P, d, H.gr.length, k, pp, rfl, j2.ctx (by omega) (by omega), POut.of (fun _ => fun aP' S2 l' e1 ow => ?_) fun m e => by rw [hbI] at e; cases e⟩
    obtain ⟨d', w', j'⟩ := j2.deed (row := .into k pp) hbI l' ow
    have l2 := j'.st
    rw [l2.list hp]
    refine ⟨trivial, rem_list (l2.list hp) hkc ?_⟩
    have l3 := l2.setC hp (l := rmv k (P.c (P.f k).par))
    have ow3 : Own (P.fp aS) S2 (P.fp aS) (put S2 (aS (.list (P.f k).par)) (.lst ((rmv k (P.c (P.f k).par)).map W.int))) := own_list hp
    generalize put S2 (aS (.list (P.f k).par)) (.lst ((rmv k (P.c (P.f k).par)).map W.int)) = S3 at *
    have hp3 : pp ∈ (opC P (P.f k).par (rmv k (P.c (P.f k).par))).kl := b1
    simp only [m_obj l3, atI_1, l3.idxL hp3, l3.list hp3]
    have hcl3 : ((opC P (P.f k).par (rmv k (P.c (P.f k).par))).c pp).length ≤ 62 := by
      show (upI P.c (P.f k).par _ pp).length ≤ _
      by_cases c : pp = (P.f k).par
      · rw [c, upI_same]; omega
      · rw [upI_ne c]; have := nd_lenI w b1; omega
    refine ⟨trivial, by rw [List.length_map, sizeLine_val]; omega, ?_⟩
    have l4 := l3.setC hp3 (l := (opC P (P.f k).par (rmv k (P.c (P.f k).par))).c pp ++ [k])
    have ow4 : Own (P.fp aS) S3 (P.fp aS) (put S3 (aS (.list pp)) (.lst (((opC P (P.f k).par (rmv k (P.c (P.f k).par))).c pp ++ [k]).map W.int))) := own_list (P := P) b1
    simp only [List.map_append, List.map_cons, List.map_nil] at l4 ow4
    generalize put S3 (aS (.list pp)) (.lst (((opC P (P.f k).par (rmv k (P.c (P.f k).par))).c pp).map W.int ++ [W.int k])) = S4 at *
    have hk4 : k ∈ (opC (opC P (P.f k).par (rmv k (P.c (P.f k).par))) pp ((opC P (P.f k).par (rmv k (P.c (P.f k).par))).c pp ++ [k])).kf := hk
    have f4' := l4.fact hk4
    simp only [m_obj l4, atI_0, l4.idxF hk4]
    refine set_fcl f4' 0 ixN_0 ?_
    have l5 := l4.setF hk4 (v := { P.f k with par := pp })
    have ow5 : Own (P.fp aS) S4 (P.fp aS) (put S4 (aS (.fact k)) (.lst (fcL { P.f k with par := pp }))) := own_fact (P := P) hk
    exact ⟨_, Sub.refl _, hq''.same j2 hbI rfl trivial j' w' e1 ow l5 rfl (ow3.trans (ow4.trans ow5))⟩
def N_law_gone_v2 : List Str := ["panes", "m", "pane", "gone", "one"]
def ir_law_gone_v2 : ISs := .cons (.set 3 (.mat (.compif (.var 4) (.call 179 (.cons (.var 1) (.cons (.var 2) (.cons (.var 4) .nil)))) (.nm 4) (.lst (.t (.srtd (.idx (.var 1) (.cst (.int 0)))))) [4]))) (.cons (.exp (.meth 446 11 "let_go" (.var 0) (.cons (.var 2) .nil))) (.cons (.exp (.rem (.idx (.idx (.var 1) (.cst (.int 1))) (.idx (.idx (.idx (.var 1) (.cst (.int 0))) (.var 2)) (.cst (.int 0)))) (.var 2))) (.cons (.for (.nm 4) (.lst (.of (.var 3))) (.cons (.exp (.dpop (.idx (.var 1) (.cst (.int 0))) (.var 4))) (.cons (.exp (.dpop (.idx (.var 1) (.cst (.int 1))) (.var 4))) .nil))) .nil)))
def sp_law_gone_v2 (cl : Nat → Addr) : MSp := fun ws S Q _ => ∃ (S0 : Sto) (aP aS : PR → Addr) (s gd : Addr) (nw : Int) (P : PS) (d : Int → Nat) (H : Shs) (F E : Fp) (k : Int), ws = [.ref (aP .obj), .ref (aS .obj), .int k] ∧ JM cl S0 S aP aS s gd nw P d nw P d H H.gr F E ∧ k ∈ P.kf ∧ H.gr.length ≤ 100 ∧ P.kf.length ≤ 40 ∧ DOut cl S0 S aP aS s gd nw P H F E P.kf.length (Q .non)
theorem pf_law_gone_v2 (G : Gs) (hG446 : G 446 = sp_Panes_let_go G.cl) (hG179 : G 179 = sp_law_within_v2) (ws : List W) (S : Sto) (Q : WQ) (X : XQ) (h : sp_law_gone_v2 G.cl ws S Q X) : ws.length = 3 ∧ wpF G 5 ir_law_gone_v2 ws S Q X := by
  obtain ⟨S0, aP, aS, s, gd, nw, P, d, H, F, E, k, rfl, j, hk, t2, hl, hq⟩ := h
  refine ⟨rfl, ?_⟩
  have sz : ∀ {n : Nat}, n ≤ 1000 → n ≤ sizeLine := fun h => by rw [sizeLine_val]; omega
  have l := j.st
  have w := j.wf
  have hp := w.par k hk
  have hkc : k ∈ P.c (P.f k).par := (w.ch _ hp k).mpr ⟨hk, rfl⟩
  unfold wpF ir_law_gone_v2
  walk_at "wp"
  simp only [wt_srtd2]
  walk_at "wp"
  simp only [m_obj l, atI_0]
  refine srt_keys l.facts w.inc (by omega) ?_
  refine CompIfG.map P.kf W.int W.int (fun j => decide (k ∈ chn P (d j) j)) rfl (by omega) trivial (fun a ha Q' R hy hn => ?_) fun q hq0 => ?_
  · walk_at "wp"
    simp only [hG179]
    refine ⟨aS, nw, gd, P, nw, d, k, a, rfl, l, w, hk, w.kl_of ha, ?_⟩
    by_cases c : k ∈ chn P (d a) a
    · rw [decide_eq_true c]; exact hy (decide_eq_true c)
    · rw [decide_eq_false c]; exact hn (decide_eq_false c)
  generalize hgo : P.kf.filter (fun j => decide (k ∈ chn P (d j) j)) = go
  have gm : ∀ {j}, j ∈ go ↔ j ∈ P.kf ∧ k ∈ chn P (d j) j := fun {j} => by rw [← hgo, List.mem_filter, decide_eq_true_iff]
  have gnd : go.Nodup := by rw [← hgo]; exact (w.inc.filter _).imp fun h e => by omega
  have sb : Sub S (put S q (.lst (go.map W.int))) := Sub.put hq0
  have j1 := j.less sb
  have hq1 : put S q (.lst (go.map W.int)) q = some (.lst (go.map W.int)) := put_same
  have nq : ¬ f4 aP aS P P F E q := fun z => j.known z hq0
  have hq' : DOut G.cl S0 (put S q (.lst (go.map W.int))) aP aS s gd nw P H F E P.kf.length (Q .non) := fun aP' aS' nw' P' d' H' F' E' S' b1 b2 b3 b4 b5 b6 b7 b8 => hq aP' aS' nw' P' d' H' F' E' S' b1 b2 b3 b4 b5 b6 b7 ((Own.of_sub sb).trans b8)
  generalize put S q (.lst (go.map W.int)) = S1 at *
  have hbG : (PRow.go k).bad P d H.gr.length = none := if_neg (fun z => z hk)
  simp only [hG446]
  refine ⟨j1.pn.ins (by decide +kernel), aP, s, nw, P, d, H.gr.length, k, rfl, j1.ctx (by omega) (by omega), POut.of (fun _ => fun aP' S2 l' e1 ow => ?_) fun m e => by rw [hbG] at e; cases e⟩
  obtain ⟨d', w', j'⟩ := j1.deed (row := .go k) hbG l' ow
  have l2 := j'.st
  have hq2 : S2 q = some (.lst (go.map W.int)) := ow.fr _ _ (fun z => nq (.inl z)) hq1
  simp only [m_obj l2, atI_1, atI_0, l2.idxF hk, fc_at l2 hk]
  rw [show atI (fcL (P.f k)) 0 = some (.int (P.f k).par) from rfl]
  have e1' := e1
  simp only [l2.idxL hp, l2.list hp]
  refine ⟨trivial, rem_list (l2.list hp) hkc ?_⟩
  have l3 := l2.setC hp (l := rmv k (P.c (P.f k).par))
  have ow3 : Own (P.fp aS) S2 (P.fp aS) (put S2 (aS (.list (P.f k).par)) (.lst ((rmv k (P.c (P.f k).par)).map W.int))) := own_list hp
  have nq2 : ∀ x, P.ok x → q ≠ aS x := fun x hx e => nq (.inr (.inl ⟨x, hx, e.symm⟩))
  have hq3 : put S2 (aS (.list (P.f k).par)) (.lst ((rmv k (P.c (P.f k).par)).map W.int)) q = some (.lst (go.map W.int)) := by rw [put_ne (nq2 (.list (P.f k).par) hp)]; exact hq2
  generalize put S2 (aS (.list (P.f k).par)) (.lst ((rmv k (P.c (P.f k).par)).map W.int)) = S3 at *
  walk_at "wp"
  rw [hq3]
  dsimp only
  refine ForG.map go W.int rfl (fun dn r σ' S' => ∃ b4 : Option W, PLay S' (mH nw gd) ⟨notIn dn P.kf, notIn dn P.kl, P.f, upI P.c (P.f k).par (rmv k (P.c (P.f k).par))⟩ aS ∧ S' q = some (.lst (go.map W.int)) ∧ Own (P.fp aS) S2 (P.fp aS) S' ∧ σ' = [some (.ref (aP .obj)), some (.ref (aS .obj)), some (.int k), some (.ref q), b4]) _ (Sub.refl _)
    ⟨none, by rw [notIn_nil, notIn_nil]; exact l3, hq3, ow3, rfl⟩ ?_ ?_
  · rintro dn one r σ' S' hsp ⟨b4, l4, hq4, ow4, rfl⟩
    have hone : one ∈ go := by rw [hsp]; simp
    have hnd : one ∉ dn := fun z => by
      rw [hsp] at gnd
      exact (List.nodup_append.mp gnd).2.2 one z one (by simp) rfl
    have okf : one ∈ notIn dn P.kf := List.mem_filter.mpr ⟨(gm.mp hone).1, decide_eq_true hnd⟩
    have okl : one ∈ notIn dn P.kl := List.mem_filter.mpr ⟨w.kl_of (gm.mp hone).1, decide_eq_true hnd⟩
    have e1 : ∀ ks : List Int, (notIn dn ks).filter (fun z => decide (z ≠ one)) = notIn (dn ++ [one]) ks := fun ks => by
      rw [notIn_cons]
      unfold notIn
      refine List.filter_congr fun j _ => decide_eq_decide.mpr (not_congr ?_)
      rw [List.mem_cons, List.mem_append, List.mem_singleton]
      exact or_comm
    refine ⟨hq4, ?_⟩
    walk_at "wp"
    simp only [m_obj l4, atI_0]
    refine ⟨⟨_, _, rfl, l4.facts⟩, ?_⟩
    unfold dkW
    dsimp only
    rw [l4.facts]
    dsimp only [dkF, keyW]
    rw [valD_int, if_pos okf]
    dsimp only
    rw [dropD_int]
    have l5 := l4.delF (n := one)
    rw [e1] at l5 ⊢
    have hq5 : put S' (aS .facts) (dkF aS (notIn (dn ++ [one]) P.kf)) q = some (.lst (go.map W.int)) := by rw [put_ne (nq2 .facts trivial)]; exact hq4
    have ow5 : Own (P.fp aS) S2 (P.fp aS) (put S' (aS .facts) (dkF aS (notIn (dn ++ [one]) P.kf))) := ow4.trans (Own.put ⟨.facts, trivial, rfl⟩)
    unfold dkF at l5 hq5 ow5
    generalize put S' (aS .facts) (.dk false ((notIn (dn ++ [one]) P.kf).map fun y => ((Sum.inl y : Key), W.ref (aS (.fact y))))) = S5 at *
    simp only [m_obj l5, atI_1]
    refine ⟨⟨_, _, rfl, l5.lists⟩, ?_⟩
    rw [l5.lists]
    dsimp only [dkL]
    rw [valD_int, if_pos okl]
    dsimp only
    rw [dropD_int]
    have l6 := l5.delL (n := one)
    have ow6 : Own (P.fp aS) S2 (P.fp aS) (put S5 (aS .lists) (dkL aS (notIn (dn ++ [one]) P.kl))) := ow5.trans (Own.put ⟨.lists, trivial, rfl⟩)
    have hq6 : put S5 (aS .lists) (dkL aS (notIn (dn ++ [one]) P.kl)) q = some (.lst (go.map W.int)) := by rw [put_ne (nq2 .lists trivial)]; exact hq5
    rw [e1] at l6 ⊢
    exact ⟨_, l6, hq6, ow6, rfl⟩
  · rintro σ' S' ⟨b4, l4, hq4, ow4, rfl⟩
    refine ⟨hq4, ?_⟩
    walk_at "wp"
    have e1 : ∀ ks, (∀ j ∈ ks, j ∈ P.kl) → notIn go ks = ks.filter fun j => decide (k ∉ chn P (d j) j) := fun ks hks => by
      refine List.filter_congr fun j hj => decide_eq_decide.mpr (not_congr ?_)
      rw [gm]
      by_cases j0 : j = 0
      · subst j0
        rw [w.chn_0]
        exact ⟨fun z => (by cases z.2), fun z => (by cases z)⟩
      · exact ⟨fun z => z.2, fun z => ⟨w.kf_of (hks j hj) j0, z⟩⟩
    rw [e1 P.kf fun j hj => w.kl_of hj, e1 P.kl fun j hj => hj] at l4
    have sf : ∀ q, PS.fp (opGo P d k) aS q → P.fp aS q := fun q ⟨x, hx, e⟩ => ⟨x, by cases x with | fact i => exact (List.mem_filter.mp hx).1 | list i => exact (List.mem_filter.mp hx).1 | _ => trivial, e⟩
    exact ⟨_, Sub.refl _, hq'.same j1 hbG rfl trivial j' w' e1' ow l4 rfl ⟨ow4.fr, fun q h => ow4.nw q (sf q h)⟩⟩
def N_law_met_v2 : List Str := ["panes", "m", "r", "w", "h", "j", "sheet", "grid", "x", "y", "text", "k"]
def ir_law_met_v2 : ISs := .cons (.iff (.and (.cmp .eq (.bin .mod (.bin .fdiv (.idx (.var 2) (.cst (.int 0))) (.cst (.int 32))) (.cst (.int 4))) (.cst (.int 3))) (.cmp .lt (.len (.idx (.var 1) (.cst (.int 3)))) (.cst (.int 12)))) (.cons (.par 3 4 (.bin .add (.cst (.int 1)) (.bin .mod (.idx (.var 2) (.cst (.int 2))) (.cst (.int 9)))) (.bin .add (.cst (.int 1)) (.bin .mod (.bin .fdiv (.idx (.var 2) (.cst (.int 2))) (.cst (.int 9))) (.cst (.int 7))))) (.cons (.exp (.meth 415 10 "make" (.meth 428 11 "sheets_kept" (.var 0) (.nil)) (.cons (.var 3) (.cons (.var 4) (.cons (.call 176 (.cons (.idx (.var 2) (.cst (.int 3))) .nil)) .nil))))) (.cons (.exp (.app (.idx (.var 1) (.cst (.int 3))) (.mat (.comp (.mat (.rep (.t (.dsp (.cons (.call 176 (.cons (.idx (.var 2) (.cst (.int 3))) .nil)) .nil))) (.var 3))) (.nm 5) (.rng (.var 4)) [5])))) (.cons (.retN) .nil)))) (.nil)) (.cons (.set 6 (.bin .mod (.idx (.var 2) (.cst (.int 1))) (.len (.idx (.var 1) (.cst (.int 3)))))) (.cons (.set 7 (.idx (.idx (.var 1) (.cst (.int 3))) (.var 6))) (.cons (.par 8 9 (.bin .sub (.bin .mod (.idx (.var 2) (.cst (.int 2))) (.cst (.int 13))) (.cst (.int 3))) (.bin .sub (.bin .mod (.bin .fdiv (.idx (.var 2) (.cst (.int 2))) (.cst (.int 13))) (.cst (.int 11))) (.cst (.int 2)))) (.cons (.iff (.cmp .eq (.bin .mod (.bin .fdiv (.idx (.var 2) (.cst (.int 0))) (.cst (.int 16))) (.cst (.int 2))) (.cst (.int 0))) (.cons (.set 10 (.join (.cst (.str "")) (.t (.comp (.call 176 (.cons (.bin .add (.bin .fdiv (.idx (.var 2) (.cst (.int 3))) (.bin .add (.cst (.int 1)) (.bin .mul (.var 11) (.var 11)))) (.var 11)) .nil)) (.nm 11) (.rng (.bin .mod (.idx (.var 2) (.cst (.int 4))) (.cst (.int 9)))) [11])))) (.cons (.exp (.meth 417 10 "write" (.meth 428 11 "sheets_kept" (.var 0) (.nil)) (.cons (.var 6) (.cons (.var 8) (.cons (.var 9) (.cons (.var 10) .nil)))))) (.cons (.for (.nm 11) (.rng (.len (.var 10))) (.cons (.iff (.and (.cmp .le (.cst (.int 0)) (.var 9)) (.and (.cmp .lt (.var 9) (.len (.var 7))) (.and (.cmp .le (.cst (.int 0)) (.bin .add (.var 8) (.var 11))) (.cmp .lt (.bin .add (.var 8) (.var 11)) (.len (.idx (.var 7) (.cst (.int 0)))))))) (.cons (.asg (.sub (.idx (.var 7) (.var 9)) (.bin .add (.var 8) (.var 11))) (.idx (.var 10) (.var 11))) .nil) (.nil)) .nil)) .nil))) (.cons (.par 3 4 (.bin .mod (.idx (.var 2) (.cst (.int 4))) (.cst (.int 7))) (.bin .mod (.bin .fdiv (.idx (.var 2) (.cst (.int 4))) (.cst (.int 7))) (.cst (.int 6)))) (.cons (.exp (.meth 425 10 "fill" (.meth 428 11 "sheets_kept" (.var 0) (.nil)) (.cons (.var 6) (.cons (.var 8) (.cons (.var 9) (.cons (.var 3) (.cons (.var 4) (.cons (.call 176 (.cons (.idx (.var 2) (.cst (.int 3))) .nil)) .nil)))))))) (.cons (.for (.nm 5) (.rng2 (.mx (.cst (.int 0)) (.var 9)) (.mn (.len (.var 7)) (.bin .add (.var 9) (.var 4)))) (.cons (.for (.nm 11) (.rng2 (.mx (.cst (.int 0)) (.var 8)) (.mn (.len (.idx (.var 7) (.cst (.int 0)))) (.bin .add (.var 8) (.var 3)))) (.cons (.asg (.sub (.idx (.var 7) (.var 5)) (.var 11)) (.call 176 (.cons (.idx (.var 2) (.cst (.int 3))) .nil))) .nil)) .nil)) .nil)))) .nil))))
def ir_law_met_v2_t4_2 : ISs := .cons (.for (.nm 11) (.rng (.len (.var 10))) (.cons (.iff (.and (.cmp .le (.cst (.int 0)) (.var 9)) (.and (.cmp .lt (.var 9) (.len (.var 7))) (.and (.cmp .le (.cst (.int 0)) (.bin .add (.var 8) (.var 11))) (.cmp .lt (.bin .add (.var 8) (.var 11)) (.len (.idx (.var 7) (.cst (.int 0)))))))) (.cons (.asg (.sub (.idx (.var 7) (.var 9)) (.bin .add (.var 8) (.var 11))) (.idx (.var 10) (.var 11))) .nil) (.nil)) .nil)) .nil
def ir_law_met_v2_t4e_2 : ISs := .cons (.for (.nm 5) (.rng2 (.mx (.cst (.int 0)) (.var 9)) (.mn (.len (.var 7)) (.bin .add (.var 9) (.var 4)))) (.cons (.for (.nm 11) (.rng2 (.mx (.cst (.int 0)) (.var 8)) (.mn (.len (.idx (.var 7) (.cst (.int 0)))) (.bin .add (.var 8) (.var 3)))) (.cons (.asg (.sub (.idx (.var 7) (.var 5)) (.var 11)) (.call 176 (.cons (.idx (.var 2) (.cst (.int 3))) .nil))) .nil)) .nil)) .nil
theorem met_text {G : Gs} {D : MEnds} {S : Sto} {q : Addr} {g : Gr} {ra : Nat → Addr} {x y : Int} {t : Str} {a0 a1 a2 a3 a4 a5 a6 a11 : Option W} (ga : GridAt S q g ra) (gok : GOk g) (ht : t.length ≤ 200)
    (hq : ∀ S' g' b, IsP g (wF x y t) g' → GridAt S' q g' ra → Own (rowsF ra g.length) S (rowsF ra g.length) S' → D.nx [a0, a1, a2, a3, a4, a5, a6, some (.ref q), some (.int x), some (.int y), some (.str t), b] S') :
    wpSs G ir_law_met_v2_t4_2 D [a0, a1, a2, a3, a4, a5, a6, some (.ref q), some (.int x), some (.int y), some (.str t), a11] S := by
  have h0 := gok.h0
  have h1 := gok.h1
  have elen : ∀ S', lenW (.str t) S' = some t.length := fun S' => if_pos (by rw [sizeLine_val]; omega)
  unfold ir_law_met_v2_t4_2
  walk_at "wp"
  rw [elen]
  dsimp only
  refine ⟨⟨by omega, by omega⟩, ?_⟩
  refine ForG.by (fun k σ' S' => ∃ (b : Option W) (g' : Gr), GridAt S' q g' ra ∧ IsP g (fun i j' => if (j' : Int) = y ∧ x ≤ i ∧ (i : Int) < x + k then some (sgAt t ((i : Int) - x).toNat) else none) g' ∧ Own (rowsF ra g.length) S (rowsF ra g.length) S' ∧
    σ' = [a0, a1, a2, a3, a4, a5, a6, some (.ref q), some (.int x), some (.int y), some (.str t), b]) _ (Sub.refl _)
    ⟨a11, g, ga, (IsP.none g).congr fun j' i _ _ => by rw [if_neg (by omega)], Own.refl _ _, rfl⟩ ?_ ?_
  · rintro k xx σ' S' hx ⟨b, g', ga', ip, ow, rfl⟩
    obtain ⟨hk, rfl⟩ := rng_at hx
    refine ⟨trivial, ?_⟩
    have gl' : g'.length = g.length := ip.len
    have r0 : ((g'.getD 0 []).length) = gw g := (ip.row 0 (by omega)).trans (gok.rl (by omega))
    walk_at "wp"
    simp only [Int.zero_add]
    have skip : ¬ (0 ≤ y ∧ y < g.length ∧ 0 ≤ x + k ∧ x + k < gw g) → IsP g (fun i j' => if (j' : Int) = y ∧ x ≤ i ∧ (i : Int) < x + (k + 1 : Nat) then some (sgAt t ((i : Int) - x).toNat) else none) g' := fun hn => ip.congr fun j' i hj' hi => by
      rw [gok.rl hj'] at hi
      by_cases c : (j' : Int) = y ∧ x ≤ i ∧ (i : Int) < x + k
      · rw [if_pos c, if_pos (by omega)]
      · rw [if_neg c, if_neg (by omega)]
    by_cases c0 : 0 ≤ y
    rotate_left
    · rw [if_neg c0]
      exact ⟨_, g', ga', skip fun h => c0 h.1, ow, rfl⟩
    rw [if_pos c0]
    simp only [ga'.top, len_ref, List.length_map, List.length_range, gl']
    by_cases c1 : y < g.length
    rotate_left
    · rw [if_neg c1]
      exact ⟨_, g', ga', skip fun h => c1 h.2.1, ow, rfl⟩
    rw [if_pos c1]
    by_cases d0 : 0 ≤ x + k
    rotate_left
    · rw [if_neg d0]
      exact ⟨_, g', ga', skip fun h => d0 h.2.2.1, ow, rfl⟩
    rw [if_pos d0]
    simp only [atI_range0 (show 0 < g.length by omega), len_ref, ga'.row 0 (by omega), List.length_map, r0]
    by_cases d1 : x + k < gw g
    rotate_left
    · rw [if_neg d1]
      exact ⟨_, g', ga', skip fun h => d1 h.2.2.2, ow, rfl⟩
    rw [if_pos d1]
    obtain ⟨j, rfl⟩ := Int.eq_ofNat_of_zero_le c0
    obtain ⟨i, hi⟩ := Int.eq_ofNat_of_zero_le d0
    have hj : j < g.length := by omega
    have e : idxW (.str t) (.int k) S' = some (.str (sgAt t k)) := by
      have hlt2 : k < t.cps.toList.length := hk
      have e1 : idxW (.str t) (.int k) S' = (atI t.cps.toList (k : Int)).map fun c => .str ⟨#[c]⟩ := if_pos (by rw [sizeLine_val]; omega)
      rw [e1, atI_nat (v := t.cps.toList.getD k 0) (by rw [List.getD_eq_getElem?_getD, List.getElem?_eq_getElem hlt2]; rfl)]; rfl
    rw [e]
    dsimp only
    simp only [atI_range hj]
    rw [hi]
    have hil : i < gw g := by omega
    refine set_cell ga' (by omega) (by rw [ip.row j hj, gok.rl hj]; exact hil) ?_
    refine ⟨_, _, ga'.set (by omega) _, (ip.step hj (by rw [gok.rl hj]; exact hil) (sgAt t k)).congr fun j' i' _ _ => ?_, ow.trans (Own.put ⟨j, hj, rfl⟩), rfl⟩
    by_cases c : j' = j ∧ i' = i
    · rw [if_pos c, if_pos (by omega)]
      have : ((i' : Int) - x).toNat = k := by omega
      rw [this]
    · rw [if_neg c]
      by_cases c2 : (j' : Int) = j ∧ x ≤ i' ∧ (i' : Int) < x + k
      · rw [if_pos c2, if_pos (by omega)]
      · rw [if_neg c2, if_neg (by omega)]
  · rintro σ' S' ⟨b, g', ga', ip, ow, rfl⟩
    rw [rng_len] at ip
    refine ⟨trivial, hq S' g' b (ip.congr fun j' i _ _ => ?_) ga' ow⟩
    unfold wF
    by_cases c : (j' : Int) = y ∧ x ≤ i ∧ (i : Int) < x + ((t.length : Int)).toNat
    · rw [if_pos c, if_pos (by omega)]
    · rw [if_neg c, if_neg (by omega)]
theorem met_box {G : Gs} (hG176 : G 176 = sp_law_sign_v2) {D : MEnds} {S : Sto} {q p2 : Addr} {g : Gr} {ra : Nat → Addr} {x y w h : Int} {rs : List Int} {n : Nat} {a0 a1 a5 a6 a10 a11 : Option W} (ga : GridAt S q g ra) (gok : GOk g) (w0 : 0 ≤ w) (w1 : w ≤ 100) (h0 : 0 ≤ h) (h1 : h ≤ 100) (hp2 : S p2 = some (.lst (rs.map W.int))) (hr : DrOk rs n) (hn : 4 ≤ n) (np2 : ¬ rowsF ra g.length p2)
    (x0 : -100 ≤ x ∧ x ≤ 100) (y0 : -100 ≤ y ∧ y ≤ 100)
    (hq : ∀ S' g' b5 b11, IsP g (fF x y w h (sgn (rg rs 3))) g' → GridAt S' q g' ra → Own (rowsF ra g.length) S (rowsF ra g.length) S' → D.nx [a0, a1, some (.ref p2), some (.int w), some (.int h), b5, a6, some (.ref q), some (.int x), some (.int y), a10, b11] S') :
    wpSs G ir_law_met_v2_t4e_2 D [a0, a1, some (.ref p2), some (.int w), some (.int h), a5, a6, some (.ref q), some (.int x), some (.int y), a10, a11] S := by
  have g0 := gok.h0
  have g1 := gok.h1
  have gw1 := gok.w1
  unfold ir_law_met_v2_t4e_2
  walk_at "wp"
  simp only [ga.top, len_ref, List.length_map, List.length_range]
  refine ⟨⟨by omega, by omega⟩, ⟨by omega, by omega⟩, ?_⟩
  have a3 : atI (rs.map W.int) 3 = some (.int (rg rs 3)) := rg_ix hr (i := 3) (by omega)
  generalize hc : sgn (rg rs 3) = c at *
  generalize hlo : max 0 y = lo at *
  generalize hhi : min (g.length : Int) (y + h) = hi at *
  refine ForG.by (fun k σ' S' => ∃ (b5 b11 : Option W) (g' : Gr), GridAt S' q g' ra ∧ IsP g (fun i j' => if lo ≤ (j' : Int) ∧ (j' : Int) < lo + k ∧ max 0 x ≤ i ∧ (i : Int) < min (gw g : Int) (x + w) then some c else none) g' ∧ Own (rowsF ra g.length) S (rowsF ra g.length) S' ∧
    σ' = [a0, a1, some (.ref p2), some (.int w), some (.int h), b5, a6, some (.ref q), some (.int x), some (.int y), a10, b11]) _ (Sub.refl _)
    ⟨a5, a11, g, ga, (IsP.none g).congr fun j' i _ _ => by rw [if_neg (by omega)], Own.refl _ _, rfl⟩ ?_ ?_
  · rintro k xx σ' S' hx ⟨b5, b11, g', ga', ip, ow, rfl⟩
    obtain ⟨hk, rfl⟩ := rng_at hx
    refine ⟨trivial, ?_⟩
    have gl' : g'.length = g.length := ip.len
    have r0 : ((g'.getD 0 []).length) = gw g := (ip.row 0 (by omega)).trans (gok.rl (by omega))
    obtain ⟨j, hj⟩ := Int.eq_ofNat_of_zero_le (show 0 ≤ lo + (k : Int) by omega)
    have hjl : j < g.length := by omega
    walk_at "wp"
    rw [hj]
    simp only [ga'.top, atI_range0 (show 0 < g'.length by omega), len_ref, ga'.row 0 (by omega), List.length_map, r0]
    refine ⟨⟨by omega, by omega⟩, ⟨by omega, by omega⟩, ?_⟩
    generalize hl2 : max 0 x = l2 at *
    generalize hh2 : min (gw g : Int) (x + w) = h2 at *
    refine ForG.by (fun m σ' S' => ∃ (b11 : Option W) (g' : Gr), GridAt S' q g' ra ∧ IsP g (fun i j' => if (lo ≤ (j' : Int) ∧ (j' : Int) < lo + k ∧ l2 ≤ i ∧ (i : Int) < h2) ∨ (j' = j ∧ l2 ≤ i ∧ (i : Int) < l2 + m) then some c else none) g' ∧ Own (rowsF ra g.length) S (rowsF ra g.length) S' ∧
      σ' = [a0, a1, some (.ref p2), some (.int w), some (.int h), some (.int (j : Nat)), a6, some (.ref q), some (.int x), some (.int y), a10, b11]) _ (Sub.refl _)
      ⟨b11, g', ga', ip.congr fun j' i _ _ => ?_, ow, rfl⟩ ?_ ?_
    · by_cases c1 : lo ≤ (j' : Int) ∧ (j' : Int) < lo + k ∧ l2 ≤ i ∧ (i : Int) < h2
      · rw [if_pos c1, if_pos (.inl c1)]
      · rw [if_neg c1, if_neg (by omega)]
    · rintro m xx σ' S' hx ⟨b11, g', ga', ip, ow, rfl⟩
      obtain ⟨hm, rfl⟩ := rng_at hx
      refine ⟨trivial, ?_⟩
      have gl' : g'.length = g.length := ip.len
      obtain ⟨i, hi2⟩ := Int.eq_ofNat_of_zero_le (show 0 ≤ l2 + (m : Int) by omega)
      have hil : i < gw g := by omega
      walk_at "wp"
      rw [ow.fr _ _ np2 hp2]
      dsimp only
      rw [a3]
      dsimp only
      simp only [hG176]
      refine ⟨_, rfl, ?_⟩
      rw [hc, hi2]
      simp only [ga'.top, atI_range (show j < g'.length by omega)]
      refine set_cell ga' (by omega) (by rw [ip.row j hjl, gok.rl hjl]; exact hil) ?_
      refine ⟨_, _, ga'.set (by omega) _, (ip.step hjl (by rw [gok.rl hjl]; exact hil) c).congr fun j' i' _ _ => ?_, ow.trans (Own.put ⟨j, hjl, rfl⟩), rfl⟩
      by_cases c1 : j' = j ∧ i' = i
      · rw [if_pos c1, if_pos (by omega)]
      · rw [if_neg c1]
        by_cases c2 : (lo ≤ (j' : Int) ∧ (j' : Int) < lo + k ∧ l2 ≤ i' ∧ (i' : Int) < h2) ∨ (j' = j ∧ l2 ≤ i' ∧ (i' : Int) < l2 + m)
        · rw [if_pos c2, if_pos (by omega)]
        · rw [if_neg c2, if_neg (by omega)]
    · rintro σ' S' ⟨b11, g', ga', ip, ow, rfl⟩
      rw [rng_len] at ip
      refine ⟨trivial, ?_⟩
      refine ⟨_, b11, g', ga', ip.congr fun j' i hj' hi' => ?_, ow, rfl⟩
      by_cases c2 : (lo ≤ (j' : Int) ∧ (j' : Int) < lo + k ∧ l2 ≤ i ∧ (i : Int) < h2) ∨ (j' = j ∧ l2 ≤ i ∧ (i : Int) < l2 + (h2 - l2).toNat)
      · rw [if_pos c2, if_pos (by omega)]
      · rw [if_neg c2, if_neg (by omega)]
  · rintro σ' S' ⟨b5, b11, g', ga', ip, ow, rfl⟩
    rw [rng_len] at ip
    refine ⟨trivial, hq S' g' b5 b11 (ip.congr fun j' i hj' hi' => ?_) ga' ow⟩
    rw [gok.rl hj'] at hi'
    unfold fF
    by_cases c2 : y ≤ (j' : Int) ∧ (j' : Int) < y + h ∧ x ≤ (i : Int) ∧ (i : Int) < x + w
    · rw [if_pos (by omega), if_pos c2]
    · rw [if_neg (by omega), if_neg c2]
def sp_law_met_v2 (cl : Nat → Addr) : MSp := fun ws S Q _ => ∃ (S0 : Sto) (aP aS : PR → Addr) (s gd : Addr) (nw : Int) (P : PS) (d : Int → Nat) (H : Shs) (F E : Fp) (ra : Addr) (rs : List Int) (n : Nat), ws = [.ref (aP .obj), .ref (aS .obj), .ref ra] ∧ JM cl S0 S aP aS s gd nw P d nw P d H H.gr F E ∧ S ra = some (.lst (rs.map W.int)) ∧ DrOk rs n ∧ 5 ≤ n ∧ ¬ f4 aP aS P P F E ra ∧ 1 ≤ H.gr.length ∧ H.gr.length ≤ 100 ∧ H.dd.length ≤ 1000 ∧ P.kf.length ≤ 40 ∧ DOut cl S0 S aP aS s gd nw P H F E P.kf.length (Q .non)
def ir_law_met_v2_t1 : ISs := .cons (.set 6 (.bin .mod (.idx (.var 2) (.cst (.int 1))) (.len (.idx (.var 1) (.cst (.int 3)))))) (.cons (.set 7 (.idx (.idx (.var 1) (.cst (.int 3))) (.var 6))) (.cons (.par 8 9 (.bin .sub (.bin .mod (.idx (.var 2) (.cst (.int 2))) (.cst (.int 13))) (.cst (.int 3))) (.bin .sub (.bin .mod (.bin .fdiv (.idx (.var 2) (.cst (.int 2))) (.cst (.int 13))) (.cst (.int 11))) (.cst (.int 2)))) (.cons (.iff (.cmp .eq (.bin .mod (.bin .fdiv (.idx (.var 2) (.cst (.int 0))) (.cst (.int 16))) (.cst (.int 2))) (.cst (.int 0))) (.cons (.set 10 (.join (.cst (.str "")) (.t (.comp (.call 176 (.cons (.bin .add (.bin .fdiv (.idx (.var 2) (.cst (.int 3))) (.bin .add (.cst (.int 1)) (.bin .mul (.var 11) (.var 11)))) (.var 11)) .nil)) (.nm 11) (.rng (.bin .mod (.idx (.var 2) (.cst (.int 4))) (.cst (.int 9)))) [11])))) (.cons (.exp (.meth 417 10 "write" (.meth 428 11 "sheets_kept" (.var 0) (.nil)) (.cons (.var 6) (.cons (.var 8) (.cons (.var 9) (.cons (.var 10) .nil)))))) (.cons (.for (.nm 11) (.rng (.len (.var 10))) (.cons (.iff (.and (.cmp .le (.cst (.int 0)) (.var 9)) (.and (.cmp .lt (.var 9) (.len (.var 7))) (.and (.cmp .le (.cst (.int 0)) (.bin .add (.var 8) (.var 11))) (.cmp .lt (.bin .add (.var 8) (.var 11)) (.len (.idx (.var 7) (.cst (.int 0)))))))) (.cons (.asg (.sub (.idx (.var 7) (.var 9)) (.bin .add (.var 8) (.var 11))) (.idx (.var 10) (.var 11))) .nil) (.nil)) .nil)) .nil))) (.cons (.par 3 4 (.bin .mod (.idx (.var 2) (.cst (.int 4))) (.cst (.int 7))) (.bin .mod (.bin .fdiv (.idx (.var 2) (.cst (.int 4))) (.cst (.int 7))) (.cst (.int 6)))) (.cons (.exp (.meth 425 10 "fill" (.meth 428 11 "sheets_kept" (.var 0) (.nil)) (.cons (.var 6) (.cons (.var 8) (.cons (.var 9) (.cons (.var 3) (.cons (.var 4) (.cons (.call 176 (.cons (.idx (.var 2) (.cst (.int 3))) .nil)) .nil)))))))) (.cons (.for (.nm 5) (.rng2 (.mx (.cst (.int 0)) (.var 9)) (.mn (.len (.var 7)) (.bin .add (.var 9) (.var 4)))) (.cons (.for (.nm 11) (.rng2 (.mx (.cst (.int 0)) (.var 8)) (.mn (.len (.idx (.var 7) (.cst (.int 0)))) (.bin .add (.var 8) (.var 3)))) (.cons (.asg (.sub (.idx (.var 7) (.var 5)) (.var 11)) (.call 176 (.cons (.idx (.var 2) (.cst (.int 3))) .nil))) .nil)) .nil)) .nil)))) .nil)))
def ir_law_met_v2_t0_1 : ISs := .cons (.exp (.meth 415 10 "make" (.meth 428 11 "sheets_kept" (.var 0) (.nil)) (.cons (.var 3) (.cons (.var 4) (.cons (.call 176 (.cons (.idx (.var 2) (.cst (.int 3))) .nil)) .nil))))) (.cons (.exp (.app (.idx (.var 1) (.cst (.int 3))) (.mat (.comp (.mat (.rep (.t (.dsp (.cons (.call 176 (.cons (.idx (.var 2) (.cst (.int 3))) .nil)) .nil))) (.var 3))) (.nm 5) (.rng (.var 4)) [5])))) (.cons (.retN) .nil))
theorem met_make {G : Gs} (hG176 : G 176 = sp_law_sign_v2) (hG428 : G 428 = sp_Panes_sheets_kept G.cl) (hG415 : G 415 = sp_Sheets_make G.cl) {D : MEnds} {S0 S : Sto} {aP aS : PR → Addr} {s gd : Addr} {nw : Int} {P : PS} {d : Int → Nat} {H : Shs} {F E : Fp} {ra : Addr} {rs : List Int} {n : Nat} {w h : Int} {a5 a6 a7 a8 a9 a10 a11 : Option W}
    (j : JM G.cl S0 S aP aS s gd nw P d nw P d H H.gr F E) (hra : S ra = some (.lst (rs.map W.int))) (hr : DrOk rs n) (hn : 5 ≤ n) (nra : ¬ f4 aP aS P P F E ra) (t2 : H.gr.length ≤ 100) (w0 : 1 ≤ w) (w1 : w ≤ 60) (h0 : 1 ≤ h) (h1 : h ≤ 60)
    (hq : DOut G.cl S0 S aP aS s gd nw P H F E P.kf.length (D.rt .non)) : wpSs G ir_law_met_v2_t0_1 D [some (.ref (aP .obj)), some (.ref (aS .obj)), some (.ref ra), some (.int w), some (.int h), a5, a6, a7, a8, a9, a10, a11] S := by
  have a3 : atI (rs.map W.int) 3 = some (.int (rg rs 3)) := rg_ix hr (i := 3) (by omega)
  unfold ir_law_met_v2_t0_1
  walk_at "wp"
  simp only [hG176, hG428, hG415, hra, a3]
  refine ⟨j.pn.ins (by decide +kernel), aP, s, nw, P, rfl, j.pn, j.sh.ins ⟨by decide +kernel, by decide +kernel, by decide +kernel⟩, ?_⟩
  rw [hra]
  dsimp only
  rw [a3]
  refine ⟨_, rfl, s, H, F, w, h, _, rfl, j.sh, by omega, fun _ F' S1 sh' ow => ?_, fun z => absurd ⟨w0, w1, h0, h1⟩ z⟩
  have hsg := sgn_ok (rg rs 3)
  generalize hc : sgn (rg rs 3) = c at *
  have j1 := j.sheets sh' (fun g hg => by
    rw [List.mem_append, List.mem_singleton] at hg
    rcases hg with hg | rfl
    · exact j.gok g hg
    · exact GOk.mk' w0 w1 h0 h1 hsg) ow
  have hra1 : S1 ra = some (.lst (rs.map W.int)) := ow.fr _ _ (fun z => nra (.inr (.inr (.inl z)))) hra
  have l1 := j1.st
  obtain ⟨eE, gs, emd, _⟩ := j1.gr.read
  simp only [m_obj l1, atI_3, emd]
  refine ⟨trivial, ⟨by omega, by omega⟩, ?_⟩
  refine CompG.lists (List.range h.toNat) (fun k => .int (0 + k)) (fun _ => List.replicate w.toNat (.str c)) rfl (by rw [List.length_range]; omega) (fun _ _ => trivial) (fun a ha S3 hs3 Q' hq' => ?_) fun rs' S3 hrl hnd hrn hs3 hr' g hg => ?_
  · walk_at "wp"
    unfold wpT
    walk_at "wp"
    simp only [hs3 _ _ hra1, a3, hG176]
    refine ⟨_, rfl, ?_⟩
    rw [hc]
    refine ⟨by rw [sizeLine_val]; decide, by omega, by omega, by rw [sizeLine_val]; omega, fun r hr => ?_⟩
    have := hq' r hr
    simpa using this
  · rw [List.length_range] at hrl
    obtain ⟨old, E2, hold, eold, gr5, ow5⟩ := j1.gr.add (w := w) (hh := h) (c := c) hs3 hrl hnd hrn hr' hg
    have e5 : put S3 g (.lst (rs'.map W.ref)) gd = some (.lst old) := (Sub.put hg) _ _ (hs3 _ _ eold)
    rw [e5]
    exact ⟨by rw [sizeLine_val]; omega, hq aP aS nw P d ⟨H.gr ++ [mkG w h c], H.dd⟩ F' E2 _ (j1.grids gr5 j1.gok ow5) rfl rfl (by omega) ⟨by show (H.gr ++ [_]).length ≤ _; rw [List.length_append, List.length_singleton]; omega, by show H.dd.length ≤ _; omega, by omega⟩ (by show _ ≤ (H.gr ++ [_]).length; rw [List.length_append]; omega) (fun v => ⟨fun k hk => by
      have := v.1 k hk
      show 0 ≤ (P.f k).sh ∧ (P.f k).sh < ((H.gr ++ [mkG w h c]).length : Nat) ∧ _
      rw [List.length_append, List.length_singleton]
      exact ⟨this.1, by omega, this.2.2⟩, v.2⟩) (ow.w3.trans ow5.w4)⟩
def ir_law_met_v2_t4 : ISs := .cons (.iff (.cmp .eq (.bin .mod (.bin .fdiv (.idx (.var 2) (.cst (.int 0))) (.cst (.int 16))) (.cst (.int 2))) (.cst (.int 0))) (.cons (.set 10 (.join (.cst (.str "")) (.t (.comp (.call 176 (.cons (.bin .add (.bin .fdiv (.idx (.var 2) (.cst (.int 3))) (.bin .add (.cst (.int 1)) (.bin .mul (.var 11) (.var 11)))) (.var 11)) .nil)) (.nm 11) (.rng (.bin .mod (.idx (.var 2) (.cst (.int 4))) (.cst (.int 9)))) [11])))) (.cons (.exp (.meth 417 10 "write" (.meth 428 11 "sheets_kept" (.var 0) (.nil)) (.cons (.var 6) (.cons (.var 8) (.cons (.var 9) (.cons (.var 10) .nil)))))) (.cons (.for (.nm 11) (.rng (.len (.var 10))) (.cons (.iff (.and (.cmp .le (.cst (.int 0)) (.var 9)) (.and (.cmp .lt (.var 9) (.len (.var 7))) (.and (.cmp .le (.cst (.int 0)) (.bin .add (.var 8) (.var 11))) (.cmp .lt (.bin .add (.var 8) (.var 11)) (.len (.idx (.var 7) (.cst (.int 0)))))))) (.cons (.asg (.sub (.idx (.var 7) (.var 9)) (.bin .add (.var 8) (.var 11))) (.idx (.var 10) (.var 11))) .nil) (.nil)) .nil)) .nil))) (.cons (.par 3 4 (.bin .mod (.idx (.var 2) (.cst (.int 4))) (.cst (.int 7))) (.bin .mod (.bin .fdiv (.idx (.var 2) (.cst (.int 4))) (.cst (.int 7))) (.cst (.int 6)))) (.cons (.exp (.meth 425 10 "fill" (.meth 428 11 "sheets_kept" (.var 0) (.nil)) (.cons (.var 6) (.cons (.var 8) (.cons (.var 9) (.cons (.var 3) (.cons (.var 4) (.cons (.call 176 (.cons (.idx (.var 2) (.cst (.int 3))) .nil)) .nil)))))))) (.cons (.for (.nm 5) (.rng2 (.mx (.cst (.int 0)) (.var 9)) (.mn (.len (.var 7)) (.bin .add (.var 9) (.var 4)))) (.cons (.for (.nm 11) (.rng2 (.mx (.cst (.int 0)) (.var 8)) (.mn (.len (.idx (.var 7) (.cst (.int 0)))) (.bin .add (.var 8) (.var 3)))) (.cons (.asg (.sub (.idx (.var 7) (.var 5)) (.var 11)) (.call 176 (.cons (.idx (.var 2) (.cst (.int 3))) .nil))) .nil)) .nil)) .nil)))) .nil
theorem pf_law_met_v2 (G : Gs) (hG176 : G 176 = sp_law_sign_v2) (hG428 : G 428 = sp_Panes_sheets_kept G.cl) (hG415 : G 415 = sp_Sheets_make G.cl) (hG417 : G 417 = sp_Sheets_write G.cl) (hG425 : G 425 = sp_Sheets_fill_v3 G.cl) (ws : List W) (S : Sto) (Q : WQ) (X : XQ) (h : sp_law_met_v2 G.cl ws S Q X) : ws.length = 3 ∧ wpF G 12 ir_law_met_v2 ws S Q X := by
  obtain ⟨S0, aP, aS, s, gd, nw, P, d, H, F, E, ra, rs, n, rfl, j, hra, hr, hn, nra, t1, t2, t3, hl, hq⟩ := h
  refine ⟨rfl, ?_⟩
  have sz : ∀ {n : Nat}, n ≤ 1000 → n ≤ sizeLine := fun h => by rw [sizeLine_val]; omega
  have l := j.st
  have a0 : atI (rs.map W.int) 0 = some (.int (rg rs 0)) := rg_ix hr (i := 0) (by omega)
  have a1 : atI (rs.map W.int) 1 = some (.int (rg rs 1)) := rg_ix hr (i := 1) (by omega)
  have a2 : atI (rs.map W.int) 2 = some (.int (rg rs 2)) := rg_ix hr (i := 2) (by omega)
  obtain ⟨eE, gs, emd, _⟩ := j.gr.read
  unfold wpF ir_law_met_v2
  show wpSs G (.cons (.iff _ (.cons _ ir_law_met_v2_t0_1) .nil) ir_law_met_v2_t1) _ _ _
  generalize hR : ir_law_met_v2_t0_1 = R
  generalize hR1 : ir_law_met_v2_t1 = R1
  walk_at "wp"
  simp only [hra, a0, a2, m_obj l, atI_3, emd, List.length_map, List.length_range]
  have rest : wpSs G R1 { nx := fun _ S' => ∃ S2, Sub S2 S' ∧ Q W.non S2, rt := fun w S' => ∃ S2, Sub S2 S' ∧ Q w S2, bk := fun _ _ => False, ct := fun _ _ => False, ex := fun _ C S' => ∃ S2, Sub S2 S' ∧ X C S2 } [some (.ref (aP .obj)), some (.ref (aS .obj)), some (.ref ra), none, none, none, none, none, none, none, none, none] S := by
    rw [← hR1]
    unfold ir_law_met_v2_t1
    show wpSs G (.cons _ (.cons _ (.cons _ ir_law_met_v2_t4))) _ _ _
    generalize hR4 : ir_law_met_v2_t4 = R4
    walk_at "wp"
    simp only [hra, a1, a2, m_obj l, atI_3, emd, len_ref, List.length_map, List.length_range]
    rw [bin_mod]
    refine ⟨by omega, ?_⟩
    obtain ⟨v, hv⟩ := Int.eq_ofNat_of_zero_le (Int.emod_nonneg (rg rs 1) (show (H.gr.length : Int) ≠ 0 by omega))
    have v9 := Int.emod_lt_of_pos (rg rs 1) (show (0 : Int) < H.gr.length by omega)
    rw [hv] at v9 ⊢
    have hv' : v < H.gr.length := by omega
    rw [idx_ref, emd]
    dsimp only
    rw [atI_range hv']
    dsimp only
    rw [bin_mod]
    refine ⟨by decide, ?_⟩
    rw [bin_sub, bin_fdiv]
    refine ⟨⟨by decide, by decide +kernel⟩, ?_⟩
    rw [bin_mod]
    refine ⟨by decide, ?_⟩
    rw [bin_sub]
    have x0 : 0 ≤ rg rs 2 % 13 := Int.emod_nonneg _ (by decide)
    have x1 : rg rs 2 % 13 < 13 := Int.emod_lt_of_pos _ (by decide)
    have y0 : 0 ≤ rg rs 2 / 13 % 11 := Int.emod_nonneg _ (by decide)
    have y1 : rg rs 2 / 13 % 11 < 11 := Int.emod_lt_of_pos _ (by decide)
    generalize rg rs 2 % 13 = x at *
    generalize rg rs 2 / 13 % 11 = y at *
    rw [← hR4]
    unfold ir_law_met_v2_t4
    show wpSs G (.cons (.iff _ (.cons _ (.cons _ ir_law_met_v2_t4_2)) (.cons _ (.cons _ ir_law_met_v2_t4e_2))) .nil) _ _ _
    generalize hRa : ir_law_met_v2_t4_2 = Ra
    generalize hRb : ir_law_met_v2_t4e_2 = Rb
    walk_at "wp"
    simp only [hra, a0, hG176, hG428, hG417, hG425]
    rw [bin_fdiv]
    refine ⟨⟨by decide, by decide +kernel⟩, ?_⟩
    rw [bin_mod]
    refine ⟨by decide, ?_⟩
    rw [cmp_eqI]
    obtain ⟨g, hg⟩ : ∃ g, H.gr[v]? = some g := ⟨_, List.getElem?_eq_getElem hv'⟩
    have gok := j.gok g (List.mem_of_getElem? hg)
    have after : ∀ {f : Nat → Nat → Option Str} {dd : List (Int × Int × Int × Int × Int)} {S1 : Sto} {g' : Gr}, dd.length ≤ H.dd.length + 1 → IsP g f g' → (∀ i j c, f i j = some c → SgOk c) → ShAt G.cl S1 s ⟨H.gr.set v g', dd⟩ F → Own F S F S1 →
        ∃ ra2, GridAt S1 (gs v) g ra2 ∧ (∀ q, rowsF ra2 g.length q → E q) ∧ ∀ S2 g'', IsP g f g'' → GridAt S2 (gs v) g'' ra2 → Own (rowsF ra2 g.length) S1 (rowsF ra2 g.length) S2 → ∃ S3, Sub S3 S2 ∧ Q .non S3 := by
      intro f dd S1 g' hdd ip hf sh1 ow1
      have j1 := j.sheets sh1 (set_wf j.gok (ip.gok gok hf)) ow1
      obtain ⟨eE1, gs1, emd1, rd1⟩ := j1.gr.read
      have e1 := ow1.fr _ _ (fun z => j.fE _ z eE) emd
      rw [emd1] at e1
      have e2 : gs1 v = gs v := by
        have e3 := MO.lst.inj (Option.some.inj e1)
        have e4 : ((List.range H.gr.length).map fun i => W.ref (gs1 i))[v]? = ((List.range H.gr.length).map fun i => W.ref (gs i))[v]? := by rw [e3]
        rw [List.getElem?_map, List.getElem?_map, List.getElem?_range hv'] at e4
        exact W.ref.inj (Option.some.inj e4)
      obtain ⟨eq, ra2, ga, er, upd⟩ := rd1 v g hg
      rw [e2] at ga upd
      refine ⟨ra2, ga, fun q ⟨i, hi, e⟩ => e ▸ er i hi, fun S2 g'' ip2 ga2 ow2 => ?_⟩
      have e5 := ip2.unique ip
      subst e5
      have ow2' : Own E S1 E S2 := ow2.wide fun q ⟨i, hi, e⟩ => e ▸ er i hi
      have gr2 := upd S2 g'' ga2 ip2.len (ip2.gw gok) ow2
      have j2 := j1.grids gr2 (set_wf j.gok (ip.gok gok hf)) ow2'
      have hl2 : (H.gr.set v g'').length = H.gr.length := List.length_set
      exact ⟨_, Sub.refl _, hq aP aS nw P d ⟨H.gr.set v g'', dd⟩ F E S2 j2 rfl rfl (by omega) ⟨by show (H.gr.set v g'').length ≤ _; omega, by show dd.length ≤ _; omega, by omega⟩ (by show _ ≤ (H.gr.set v g'').length; omega) (fun w => by show PW P ((H.gr.set v g'').length : Nat); rw [hl2]; exact w) (Own.trans ow1.w3 ow2'.w4)⟩
    have a4 : atI (rs.map W.int) 4 = some (.int (rg rs 4)) := rg_ix hr (i := 4) (by omega)
    have a3 : atI (rs.map W.int) 3 = some (.int (rg rs 3)) := rg_ix hr (i := 3) (by omega)
    have k3 := (rg_at hr (i := 3) (by omega)).2
    rw [a4]
    dsimp only
    have k2 : ∀ {g' : Gr} {k2 : Nat} {g2 : Gr}, (v : Int) = k2 → H.gr[k2]? = some g2 → k2 = v ∧ g2 = g := fun {g' k2 g2} e h => by
      have : k2 = v := by omega
      subst this
      rw [hg] at h
      exact ⟨rfl, (Option.some.inj h).symm⟩
    have noo : ¬ ((v : Int) < 0 ∨ (H.gr.length : Int) ≤ v) := by omega
    split
    · rw [bin_mod]
      refine ⟨⟨_, rfl⟩, by decide, ?_⟩
      have n0 : 0 ≤ rg rs 4 % 9 := Int.emod_nonneg _ (by decide)
      have n1 : rg rs 4 % 9 < 9 := Int.emod_lt_of_pos _ (by decide)
      generalize rg rs 4 % 9 = m at *
      obtain ⟨m, rfl⟩ := Int.eq_ofNat_of_zero_le n0
      refine ⟨⟨by omega, by omega⟩, ?_⟩
      refine CompG.map (List.range m) (fun k => .int (0 + k)) (fun k => .str (sgn (rg rs 3 / (1 + (0 + k : Int) * (0 + k : Int)) + (0 + k : Int)))) rfl (by rw [List.length_range]; omega) trivial (fun a ha Q' hq' => ?_) ?_
      · rw [List.mem_range] at ha
        have aa : (0 : Int) ≤ (0 + (a : Int)) * (0 + (a : Int)) := Int.mul_nonneg (by omega) (by omega)
        have aa2 : (0 + (a : Int)) * (0 + (a : Int)) ≤ 8 * 8 := Int.mul_le_mul (by omega) (by omega) (by omega) (by omega)
        walk_at "wp"
        simp only [hra, a3, hG176]
        refine ⟨mulOk_of (by omega) (by omega) (by omega) (by omega), ?_⟩
        generalize (0 + (a : Int)) * (0 + (a : Int)) = aq at *
        rw [bin_fdiv]
        refine ⟨⟨by omega, ?_⟩, ?_⟩
        · have : (1 + aq).natAbs.log2 < 7 := (Nat.log2_lt (by omega)).mpr (by show _ < 128; omega)
          omega
        · exact ⟨_, rfl, hq'⟩
      · have el : ((List.range m).map fun k : Nat => W.str (sgn (rg rs 3 / (1 + (0 + k : Int) * (0 + k : Int)) + (0 + k : Int)))) = ((List.range m).map fun k : Nat => sgn (rg rs 3 / (1 + (0 + k : Int) * (0 + k : Int)) + (0 + k : Int))).map W.str := by rw [List.map_map]; rfl
        rw [el]
        have hsl : ∀ c ∈ (List.range m).map fun k : Nat => sgn (rg rs 3 / (1 + (0 + k : Int) * (0 + k : Int)) + (0 + k : Int)), SgOk c := fun c hc => by
          obtain ⟨k, _, rfl⟩ := List.mem_map.mp hc
          exact sgn_ok _
        have hll : ((List.range m).map fun k : Nat => sgn (rg rs 3 / (1 + (0 + k : Int) * (0 + k : Int)) + (0 + k : Int))).length = m := by rw [List.length_map, List.length_range]
        generalize ((List.range m).map fun k : Nat => sgn (rg rs 3 / (1 + (0 + k : Int) * (0 + k : Int)) + (0 + k : Int))) = tl at *
        refine join_row hsl (by omega) ?_
        have htx := TxOk.txt hsl
        have htl := txt_len hsl
        generalize txt tl = t at *
        refine ⟨j.pn.ins (by decide +kernel), aP, s, nw, P, rfl, j.pn, j.sh.ins ⟨by decide +kernel, by decide +kernel, by decide +kernel⟩, s, H, F, v, x - 3, y - 2, t, rfl, j.sh, by omega, by omega, j.gok, by omega, fun k g2 e1 e2 g' S1 ip sh1 ow1 => ?_, fun z => absurd z noo⟩
        obtain ⟨rfl, rfl⟩ := k2 (g' := g') e1 e2
        obtain ⟨ra2, ga, _, fin⟩ := after (by rw [List.length_append, List.length_singleton]; omega) ip (wF_sg htx) sh1 ow1
        rw [← hRa]
        exact met_text ga gok (by omega) fun S2 g'' b ip2 ga2 ow2 => fin S2 g'' ip2 ga2 ow2
    · rw [bin_mod]
      refine ⟨by decide, ?_⟩
      rw [bin_fdiv]
      refine ⟨⟨by decide, by decide +kernel⟩, ?_⟩
      rw [bin_mod]
      refine ⟨by decide, ?_⟩
      have n0 : 0 ≤ rg rs 4 % 7 := Int.emod_nonneg _ (by decide)
      have n1 : rg rs 4 % 7 < 7 := Int.emod_lt_of_pos _ (by decide)
      have m0 : 0 ≤ rg rs 4 / 7 % 6 := Int.emod_nonneg _ (by decide)
      have m1 : rg rs 4 / 7 % 6 < 6 := Int.emod_lt_of_pos _ (by decide)
      generalize rg rs 4 % 7 = w at *
      generalize rg rs 4 / 7 % 6 = h at *
      refine ⟨j.pn.ins (by decide +kernel), aP, s, nw, P, rfl, j.pn, j.sh.ins ⟨by decide +kernel, by decide +kernel, by decide +kernel⟩, ?_⟩
      simp only [hra, a3]
      refine ⟨_, rfl, s, H, F, v, x - 3, y - 2, w, h, _, rfl, j.sh, by omega, by omega, j.gok, fun k g2 e1 e2 g' S1 ip sh1 ow1 => ?_, fun z => absurd z noo⟩
      obtain ⟨rfl, rfl⟩ := k2 (g' := g') e1 e2
      obtain ⟨ra2, ga, rE, fin⟩ := after (by rw [List.length_append, List.length_singleton]; omega) ip (fF_sg (sgn_ok _)) sh1 ow1
      have hra1 : S1 ra = some (.lst (rs.map W.int)) := ow1.fr _ _ (fun z => nra (.inr (.inr (.inl z)))) hra
      rw [← hRb]
      exact met_box hG176 ga gok n0 (by omega) m0 (by omega) hra1 hr (by omega) (fun z => nra (.inr (.inr (.inr (rE _ z))))) (by omega) (by omega) fun S2 g'' b5 b11 ip2 ga2 ow2 => fin S2 g'' ip2 ga2 ow2
  rw [bin_fdiv]
  refine ⟨⟨by decide, by decide +kernel⟩, ?_⟩
  rw [bin_mod]
  refine ⟨by decide, ?_⟩
  rw [cmp_eqI]
  split
  rotate_left
  · exact rest
  rw [len_ref, emd]
  simp only [List.length_map, List.length_range]
  split
  rotate_left
  · exact rest
  rw [bin_mod]
  refine ⟨by decide, ?_⟩
  rw [bin_addI, bin_fdiv]
  refine ⟨⟨by decide, by decide +kernel⟩, ?_⟩
  rw [bin_mod]
  refine ⟨by decide, ?_⟩
  rw [bin_addI]
  have x0 : 0 ≤ rg rs 2 % 9 := Int.emod_nonneg _ (by decide)
  have x1 : rg rs 2 % 9 < 9 := Int.emod_lt_of_pos _ (by decide)
  have y0 : 0 ≤ rg rs 2 / 9 % 7 := Int.emod_nonneg _ (by decide)
  have y1 : rg rs 2 / 9 % 7 < 7 := Int.emod_lt_of_pos _ (by decide)
  rw [← hR]
  exact met_make hG176 hG428 hG415 j hra hr hn nra t2 (by omega) (by omega) (by omega) (by omega) fun aP' aS' nw' P' d' H' F' E' S' b1 b2 b3 b4 b5 b6 b7 b8 => ⟨_, Sub.refl _, hq aP' aS' nw' P' d' H' F' E' S' b1 b2 b3 b4 b5 b6 b7 b8⟩
theorem own_new {S2 : Sto} {a q b t' gd : Addr} (ha : S2 a = none) (hq0 : put S2 a (.dk false []) q = none) (hb3 : put (put S2 a (.dk false [])) q (.lst []) b = none) (ht : put (put (put S2 a (.dk false [])) q (.lst [])) b (.dk false [((Sum.inl 0 : Key), W.ref q)]) t' = none) :
    ∃ aS : PR → Addr, PLay (put (put (put (put S2 a (.dk false [])) q (.lst [])) b (.dk false [((Sum.inl 0 : Key), W.ref q)])) t' (.lst [.ref a, .ref b, .int 0, .ref gd])) (mH 0 gd) P0 aS ∧ aS .obj = t' ∧ Sub S2 (put (put (put (put S2 a (.dk false [])) q (.lst [])) b (.dk false [((Sum.inl 0 : Key), W.ref q)])) t' (.lst [.ref a, .ref b, .int 0, .ref gd])) ∧ ∀ z, P0.fp aS z → S2 z = none := by
  have s1 : Sub S2 (put S2 a (.dk false [])) := Sub.put ha
  have a1 : put S2 a (.dk false []) a = some (.dk false []) := put_same
  generalize put S2 a (.dk false []) = T1 at *
  have qa : q ≠ a := ne_new a1 hq0
  have s2 : Sub T1 (put T1 q (.lst [])) := Sub.put hq0
  have q2 : put T1 q (.lst []) q = some (.lst []) := put_same
  generalize put T1 q (.lst []) = T2 at *
  have a2 := s2 _ _ a1
  have ba : b ≠ a := ne_new a2 hb3
  have bq : b ≠ q := ne_new q2 hb3
  have s3 : Sub T2 (put T2 b (.dk false [((Sum.inl 0 : Key), W.ref q)])) := Sub.put hb3
  have b3' : put T2 b (.dk false [((Sum.inl 0 : Key), W.ref q)]) b = some (.dk false [((Sum.inl 0 : Key), W.ref q)]) := put_same
  generalize put T2 b (.dk false [((Sum.inl 0 : Key), W.ref q)]) = T3 at *
  have a3 := s3 _ _ a2
  have q3 := s3 _ _ q2
  have ta : t' ≠ a := ne_new a3 ht
  have tq : t' ≠ q := ne_new q3 ht
  have tb : t' ≠ b := ne_new b3' ht
  have s4 : Sub T3 (put T3 t' (.lst [.ref a, .ref b, .int 0, .ref gd])) := Sub.put ht
  have t4 : put T3 t' (.lst [.ref a, .ref b, .int 0, .ref gd]) t' = some (.lst [.ref a, .ref b, .int 0, .ref gd]) := put_same
  generalize put T3 t' (.lst [.ref a, .ref b, .int 0, .ref gd]) = T4 at *
  have a4 := s4 _ _ a3
  have q4 := s4 _ _ q3
  have b4 := s4 _ _ b3'
  have sall : Sub S2 T4 := ((s1.trans s2).trans s3).trans s4
  have na : S2 a = none := ha
  have nq : S2 q = none := s1.none hq0
  have nb : S2 b = none := (s1.trans s2).none hb3
  have nt : S2 t' = none := ((s1.trans s2).trans s3).none ht
  let aS : PR → Addr := fun | .obj => t' | .facts => a | .lists => b | .fact _ => t' | .list _ => q
  have lS : PLay T4 (mH 0 gd) P0 aS := by
    refine ⟨fun x hx => ?_, fun x y hx hy e => ?_⟩
    · cases x with
      | obj => exact t4
      | facts => exact a4
      | lists => exact b4
      | fact k => cases hx
      | list k => exact q4
    · cases x with
      | fact k => cases hx
      | obj => cases y with
        | obj => rfl
        | facts => exact (ta e).elim
        | lists => exact (tb e).elim
        | fact k => cases hy
        | list k => exact (tq e).elim
      | facts => cases y with
        | obj => exact (ta e.symm).elim
        | facts => rfl
        | lists => exact (ba e.symm).elim
        | fact k => cases hy
        | list k => exact (qa e.symm).elim
      | lists => cases y with
        | obj => exact (tb e.symm).elim
        | facts => exact (ba e).elim
        | lists => rfl
        | fact k => cases hy
        | list k => exact (bq e).elim
      | list k => cases y with
        | obj => exact (tq e.symm).elim
        | facts => exact (qa e).elim
        | lists => exact (bq e.symm).elim
        | fact k => cases hy
        | list j =>
          have h1 : k = 0 := List.mem_singleton.mp hx
          have h2 : j = 0 := List.mem_singleton.mp hy
          rw [h1, h2]
  have newS : ∀ z, P0.fp aS z → S2 z = none := fun z hz => by
    obtain ⟨x, hx, rfl⟩ := hz
    cases x with
    | obj => exact nt
    | facts => exact na
    | lists => exact nb
    | fact k => cases hx
    | list k => exact nq
  exact ⟨aS, lS, rfl, sall, newS⟩
structure JB (cl : Nat → Addr) (S0 S : Sto) (s gd : Addr) (T : List Gr) (F E : Fp) : Prop where
  sub : Sub S0 S
  sh : ShAt cl S s ⟨T, []⟩ F
  gr : GrsAt cl S gd T E
  fE : ∀ q, F q → ¬ E q
  z2 : ∀ q, F q → S0 q = none
  z3 : ∀ q, E q → S0 q = none
  gok : ∀ g ∈ T, GOk g
def N_law_begun : List Str := ["r", "sheets", "grids", "k", "one", "w", "h", "j"]
def ir_law_begun : ISs := .cons (.set 1 (.make 412 10 (.nil))) (.cons (.set 2 (.mat (.dsp (.nil)))) (.cons (.for (.nm 3) (.rng (.bin .add (.cst (.int 1)) (.bin .mod (.idx (.var 0) (.cst (.int 0))) (.cst (.int 3))))) (.cons (.set 4 (.idx (.var 0) (.bin .add (.cst (.int 1)) (.bin .mul (.cst (.int 2)) (.var 3))))) (.cons (.set 5 (.idl (.t (.dsp (.cons (.bin .add (.cst (.int 1)) (.bin .mod (.var 4) (.cst (.int 9)))) (.cons (.cst (.int 60)) .nil)))) (.intE (.cmp .eq (.bin .mod (.bin .fdiv (.var 4) (.cst (.int 63))) (.cst (.int 16))) (.cst (.int 5)))))) (.cons (.set 6 (.idl (.t (.dsp (.cons (.bin .add (.cst (.int 1)) (.bin .mod (.bin .fdiv (.var 4) (.cst (.int 9))) (.cst (.int 7)))) (.cons (.cst (.int 60)) .nil)))) (.intE (.cmp .eq (.bin .mod (.bin .fdiv (.var 4) (.cst (.int 1008))) (.cst (.int 16))) (.cst (.int 5)))))) (.cons (.exp (.meth 415 10 "make" (.var 1) (.cons (.var 5) (.cons (.var 6) (.cons (.call 176 (.cons (.idx (.var 0) (.bin .add (.cst (.int 2)) (.bin .mul (.cst (.int 2)) (.var 3)))) .nil)) .nil))))) (.cons (.exp (.app (.var 2) (.mat (.comp (.mat (.rep (.t (.dsp (.cons (.call 176 (.cons (.idx (.var 0) (.bin .add (.cst (.int 2)) (.bin .mul (.cst (.int 2)) (.var 3)))) .nil)) .nil))) (.var 5))) (.nm 7) (.rng (.var 6)) [7])))) .nil)))))) (.cons (.ret (.tup (.cons (.make 427 11 (.cons (.var 1) .nil)) (.cons (.mat (.dsp (.cons (.dnew false) (.cons (.ddsp [.inl 0] (.cons (.mat (.dsp (.nil))) .nil)) (.cons (.cst (.int 0)) (.cons (.var 2) .nil)))))) .nil)))) .nil)))
def ir_law_begun_t3 : ISs := .cons (.ret (.tup (.cons (.make 427 11 (.cons (.var 1) .nil)) (.cons (.mat (.dsp (.cons (.dnew false) (.cons (.ddsp [.inl 0] (.cons (.mat (.dsp (.nil))) .nil)) (.cons (.cst (.int 0)) (.cons (.var 2) .nil)))))) .nil)))) .nil
def ir_law_begun_t2_2 : ISs := .cons (.set 6 (.idl (.t (.dsp (.cons (.bin .add (.cst (.int 1)) (.bin .mod (.bin .fdiv (.var 4) (.cst (.int 9))) (.cst (.int 7)))) (.cons (.cst (.int 60)) .nil)))) (.intE (.cmp .eq (.bin .mod (.bin .fdiv (.var 4) (.cst (.int 1008))) (.cst (.int 16))) (.cst (.int 5)))))) (.cons (.exp (.meth 415 10 "make" (.var 1) (.cons (.var 5) (.cons (.var 6) (.cons (.call 176 (.cons (.idx (.var 0) (.bin .add (.cst (.int 2)) (.bin .mul (.cst (.int 2)) (.var 3)))) .nil)) .nil))))) (.cons (.exp (.app (.var 2) (.mat (.comp (.mat (.rep (.t (.dsp (.cons (.call 176 (.cons (.idx (.var 0) (.bin .add (.cst (.int 2)) (.bin .mul (.cst (.int 2)) (.var 3)))) .nil)) .nil))) (.var 5))) (.nm 7) (.rng (.var 6)) [7])))) .nil))
def ir_law_begun_t2_3 : ISs := .cons (.exp (.meth 415 10 "make" (.var 1) (.cons (.var 5) (.cons (.var 6) (.cons (.call 176 (.cons (.idx (.var 0) (.bin .add (.cst (.int 2)) (.bin .mul (.cst (.int 2)) (.var 3)))) .nil)) .nil))))) (.cons (.exp (.app (.var 2) (.mat (.comp (.mat (.rep (.t (.dsp (.cons (.call 176 (.cons (.idx (.var 0) (.bin .add (.cst (.int 2)) (.bin .mul (.cst (.int 2)) (.var 3)))) .nil)) .nil))) (.var 5))) (.nm 7) (.rng (.var 6)) [7])))) .nil)
def sp_law_begun (cl : Nat → Addr) : MSp := fun ws S Q _ => ∃ (ra : Addr) (rs : List Int) (n : Nat), ws = [.ref ra] ∧ S ra = some (.lst (rs.map W.int)) ∧ DrOk rs n ∧ 7 ≤ n ∧ ∀ (aP aS : PR → Addr) (s gd : Addr) (H : Shs) (F E : Fp) S', JM cl S S' aP aS s gd 0 P0 (fun _ => 0) 0 P0 (fun _ => 0) H H.gr F E → 1 ≤ H.gr.length → H.gr.length ≤ 3 → H.dd = [] → Q (.tup [.ref (aP .obj), .ref (aS .obj)]) S'
theorem begun_end {G : Gs} (hG427 : G 427 = sp_Panes_init G.cl) {D : MEnds} {S0 S : Sto} {s gd : Addr} {T : List Gr} {F E : Fp} {a0 a3 a4 a5 a6 a7 : Option W} (j : JB G.cl S0 S s gd T F E)
    (hq : ∀ (aP aS : PR → Addr) S', JM G.cl S0 S' aP aS s gd 0 P0 (fun _ => 0) 0 P0 (fun _ => 0) ⟨T, []⟩ T F E → D.rt (.tup [.ref (aP .obj), .ref (aS .obj)]) S') :
    wpSs G ir_law_begun_t3 D [a0, some (.ref s), some (.ref gd), a3, a4, a5, a6, a7] S := by
  have sz : ∀ {n : Nat}, n ≤ 1000 → n ≤ sizeLine := fun h => by rw [sizeLine_val]; omega
  unfold ir_law_begun_t3
  walk_at "wp"
  simp only [hG427]
  intro pp hpp
  refine ⟨pp, s, rfl, put_same, fun aP S2 lp e1 ow => ⟨rfl, ?_⟩⟩
  intro a ha
  rw [if_neg (by decide : ¬ (false = true))] at *
  have emk : ∀ q, mkD [Sum.inl 0] [W.ref q] = [((Sum.inl 0 : Key), W.ref q)] := fun _ => rfl
  refine ⟨sz (by decide), fun q hq0 b hb => ⟨sz (by decide), fun t ht => ⟨sz (by decide), ?_⟩⟩⟩
  rw [emk] at ht ⊢
  obtain ⟨aS, lS, e2, sall, newS⟩ := own_new (gd := gd) ha hq0 hb ht
  have b1 := ow.base (Sub.put hpp) (fun q hq => by rw [show q = pp from hq]; exact hpp)
  generalize put (put (put (put S2 a (.dk false [])) q (.lst [])) b (.dk false [((Sum.inl 0 : Key), W.ref q)])) t (.lst [.ref a, .ref b, .int 0, .ref gd]) = S4 at *
  rw [← e1, ← e2]
  exact hq aP aS S4 ⟨j.sub.trans (b1.1.trans sall), lp.subP sall, lS, j.sh.sub (b1.1.trans sall), j.gr.sub (b1.1.trans sall), P0_wf, P0_wf, j.gok, j.gok, fun z h1 h2 => lp.known h1 (newS z h2), fun z h1 h2 => j.sh.known h2 (b1.2 z h1), fun z h1 h2 => j.gr.known h2 (b1.2 z h1), fun z h1 h2 => j.sh.known h2 (b1.1.none (newS z h1)), fun z h1 h2 => j.gr.known h2 (b1.1.none (newS z h1)), j.fE, fun z h => j.sub.none (b1.2 z h), fun z h => j.sub.none (b1.1.none (newS z h)), j.z2, j.z3⟩
theorem begun_make {G : Gs} (hG176 : G 176 = sp_law_sign_v2) (hG415 : G 415 = sp_Sheets_make G.cl) {D : MEnds} {S0 S : Sto} {s gd ra : Addr} {T : List Gr} {F E : Fp} {rs : List Int} {n k : Nat} {w h : Int} {a4 a7 : Option W} (j : JB G.cl S0 S s gd T F E) (hra : S ra = some (.lst (rs.map W.int))) (zra : S0 ra = some (.lst (rs.map W.int))) (hr : DrOk rs n) (hn : 7 ≤ n) (hk : k < 3) (hT : T.length = k) (w0 : 1 ≤ w) (w1 : w ≤ 60) (h0 : 1 ≤ h) (h1 : h ≤ 60)
    (hq : ∀ T' F' E' S' b, T'.length = k + 1 → JB G.cl S0 S' s gd T' F' E' → D.nx [some (.ref ra), some (.ref s), some (.ref gd), some (.int (k : Nat)), a4, some (.int w), some (.int h), b] S') :
    wpSs G ir_law_begun_t2_3 D [some (.ref ra), some (.ref s), some (.ref gd), some (.int (k : Nat)), a4, some (.int w), some (.int h), a7] S := by
  have k2 := rg_ix hr (i := 2 + 2 * k) (by omega)
  unfold ir_law_begun_t2_3
  walk_at "wp"
  simp only [hra, hG176, hG415]
  have em : mulOk 2 (k : Int) := mulOk_of (by decide) (by decide) (by omega) (by omega)
  have ek : (2 : Int) + 2 * (k : Int) = ((2 + 2 * k : Nat) : Int) := by push_cast; rfl
  refine ⟨j.sh.ins ⟨by decide +kernel, by decide +kernel, by decide +kernel⟩, em, ?_⟩
  rw [ek, k2]
  refine ⟨_, rfl, s, ⟨T, []⟩, F, w, h, _, rfl, j.sh, by show T.length ≤ 1000; omega, fun _ F' S1 sh' ow => ?_, fun z => absurd ⟨w0, w1, h0, h1⟩ z⟩
  have hsg := sgn_ok (rg rs (2 + 2 * k))
  generalize hc : sgn (rg rs (2 + 2 * k)) = c at *
  have b1 := ow.base j.sub j.z2
  have hra1 : S1 ra = some (.lst (rs.map W.int)) := b1.1 _ _ zra
  have gr1 := j.gr.own ow fun q h1 h2 => j.fE q h2 h1
  obtain ⟨eE, gs, emd, _⟩ := gr1.read
  simp only [emd]
  refine ⟨trivial, ⟨by omega, by omega⟩, ?_⟩
  refine CompG.lists (List.range h.toNat) (fun k => .int (0 + k)) (fun _ => List.replicate w.toNat (.str c)) rfl (by rw [List.length_range]; omega) (fun _ _ => trivial) (fun a ha S3 hs3 Q' hq' => ?_) fun rs' S3 hrl hnd hrn hs3 hr' g hg => ?_
  · walk_at "wp"
    unfold wpT
    walk_at "wp"
    simp only [hs3 _ _ hra1, hG176]
    rw [ek, k2]
    refine ⟨em, _, rfl, ?_⟩
    rw [hc]
    refine ⟨by rw [sizeLine_val]; decide, by omega, by omega, by rw [sizeLine_val]; omega, fun r hr => ?_⟩
    have := hq' r hr
    simpa using this
  · rw [List.length_range] at hrl
    obtain ⟨old, E2, hold, eold, gr5, ow5⟩ := gr1.add (w := w) (hh := h) (c := c) hs3 hrl hnd hrn hr' hg
    have e5 : put S3 g (.lst (rs'.map W.ref)) gd = some (.lst old) := (Sub.put hg) _ _ (hs3 _ _ eold)
    rw [e5]
    have b2 := ow5.base b1.1 j.z3
    have fE' := ow.apart j.fE fun _ => j.gr.known
    refine ⟨by rw [sizeLine_val]; omega, hq _ F' E2 _ _ (by rw [List.length_append, List.length_singleton, hT]) ⟨b2.1, sh'.own ow5 fE', gr5, fun q h1 h2 => ow5.apart (fun q h1 h2 => fE' q h2 h1) (fun _ => sh'.known) q h2 h1, b1.2, b2.2, fun g hg => ?_⟩⟩
    rw [List.mem_append, List.mem_singleton] at hg
    rcases hg with hg | rfl
    · exact j.gok g hg
    · exact GOk.mk' w0 w1 h0 h1 hsg
theorem begun_h {G : Gs} (hG176 : G 176 = sp_law_sign_v2) (hG415 : G 415 = sp_Sheets_make G.cl) {D : MEnds} {S0 S : Sto} {s gd ra : Addr} {T : List Gr} {F E : Fp} {rs : List Int} {n k : Nat} {w one : Int} {a6 a7 : Option W} (j : JB G.cl S0 S s gd T F E) (hra : S ra = some (.lst (rs.map W.int))) (zra : S0 ra = some (.lst (rs.map W.int))) (hr : DrOk rs n) (hn : 7 ≤ n) (hk : k < 3) (hT : T.length = k) (w0 : 1 ≤ w) (w1 : w ≤ 60)
    (hq : ∀ T' F' E' S' h b, T'.length = k + 1 → JB G.cl S0 S' s gd T' F' E' → D.nx [some (.ref ra), some (.ref s), some (.ref gd), some (.int (k : Nat)), some (.int one), some (.int w), h, b] S') :
    wpSs G ir_law_begun_t2_2 D [some (.ref ra), some (.ref s), some (.ref gd), some (.int (k : Nat)), some (.int one), some (.int w), a6, a7] S := by
  unfold ir_law_begun_t2_2
  show wpSs G (.cons _ ir_law_begun_t2_3) _ _ _
  generalize hR : ir_law_begun_t2_3 = R
  walk_at "wp"
  have m0 : 0 ≤ one / 9 % 7 := Int.emod_nonneg _ (by decide)
  have m1 : one / 9 % 7 < 7 := Int.emod_lt_of_pos _ (by decide)
  refine ⟨⟨by decide, by decide +kernel⟩, by decide, by rw [sizeLine_val]; decide, ⟨by decide, by decide +kernel⟩, by decide, ?_⟩
  generalize decide (one / 1008 % 16 = 5) = b
  rw [← hR]
  cases b
  · simp only [intW, Bool.false_eq_true, if_false, atI_0]
    exact begun_make hG176 hG415 j hra zra hr hn hk hT w0 w1 (by omega) (by omega) fun T' F' E' S' b => hq T' F' E' S' _ b
  · simp only [intW, if_true, atI_1]
    exact begun_make hG176 hG415 j hra zra hr hn hk hT w0 w1 (by omega) (by omega) fun T' F' E' S' b => hq T' F' E' S' _ b
theorem pf_law_begun (G : Gs) (hG176 : G 176 = sp_law_sign_v2) (hG412 : G 412 = sp_Sheets_init G.cl) (hG415 : G 415 = sp_Sheets_make G.cl) (hG427 : G 427 = sp_Panes_init G.cl) (ws : List W) (S : Sto) (Q : WQ) (X : XQ) (h : sp_law_begun G.cl ws S Q X) : ws.length = 1 ∧ wpF G 8 ir_law_begun ws S Q X := by
  obtain ⟨ra, rs, n, rfl, hra, hr, hn, hq⟩ := h
  refine ⟨rfl, ?_⟩
  have sz : ∀ {n : Nat}, n ≤ 1000 → n ≤ sizeLine := fun h => by rw [sizeLine_val]; omega
  have a0 : atI (rs.map W.int) 0 = some (.int (rg rs 0)) := rg_ix hr (i := 0) (by omega)
  unfold wpF ir_law_begun
  show wpSs G (.cons _ (.cons _ (.cons (.for _ _ (.cons _ (.cons _ ir_law_begun_t2_2))) ir_law_begun_t3))) _ _ _
  generalize hR : ir_law_begun_t3 = R
  generalize hRb : ir_law_begun_t2_2 = Rb
  walk_at "wp"
  simp only [hG412]
  intro s hs
  refine ⟨s, rfl, put_same, fun F S1 sh1 ow1 => ⟨rfl, ?_⟩⟩
  have b1 := ow1.base (Sub.put hs) (fun q hq => by rw [show q = s from hq]; exact hs)
  walk_at "wp"
  refine ⟨Nat.zero_le _, fun gd hgd => ?_⟩
  have j0 : JB G.cl S (put S1 gd (.lst [])) s gd [] F (fun q => q = gd) :=
    ⟨b1.1.new hgd, sh1.put (sh1.not hgd), GrsAt.nil put_same, fun q h1 h2 => sh1.not hgd (h2 ▸ h1), b1.2, fun q h => by rw [show q = gd from h]; exact b1.1.none hgd, fun g hg => by cases hg⟩
  generalize put S1 gd (.lst []) = S2 at *
  walk_at "wp"
  simp only [j0.sub _ _ hra, a0]
  rw [bin_mod]
  refine ⟨by decide, ?_⟩
  rw [bin_addI]
  have m0 : 0 ≤ rg rs 0 % 3 := Int.emod_nonneg _ (by decide)
  have m1 : rg rs 0 % 3 < 3 := Int.emod_lt_of_pos _ (by decide)
  generalize rg rs 0 % 3 = m at *
  refine ⟨⟨by omega, by omega⟩, ?_⟩
  refine ForG.by (fun k σ' S' => ∃ (T : List Gr) (F E : Fp) (b3 b4 b5 b6 b7 : Option W), T.length = k ∧ JB G.cl S S' s gd T F E ∧ σ' = [some (.ref ra), some (.ref s), some (.ref gd), b3, b4, b5, b6, b7]) _ (Sub.refl _)
    ⟨[], F, _, none, none, none, none, none, rfl, j0, rfl⟩ ?_ ?_
  · rintro k xx σ' S' hx ⟨T, F, E, b3, b4, b5, b6, b7, hT, j, rfl⟩
    obtain ⟨hk, rfl⟩ := rng_at hx
    have hk3 : k < 3 := by omega
    refine ⟨trivial, ?_⟩
    have hra1 := j.sub _ _ hra
    have k1 := rg_ix hr (i := 1 + 2 * k) (by omega)
    walk_at "wp"
    simp only [hra1, Int.zero_add]
    have em : mulOk 2 (k : Int) := mulOk_of (by decide) (by decide) (by omega) (by omega)
    have ek : (1 : Int) + 2 * (k : Int) = ((1 + 2 * k : Nat) : Int) := by push_cast; rfl
    refine ⟨em, ?_⟩
    rw [ek, k1]
    dsimp only
    generalize rg rs (1 + 2 * k) = one
    rw [bin_mod]
    refine ⟨by decide, ?_⟩
    rw [bin_addI]
    have n0 : 0 ≤ one % 9 := Int.emod_nonneg _ (by decide)
    have n1 : one % 9 < 9 := Int.emod_lt_of_pos _ (by decide)
    generalize one % 9 = m at *
    refine ⟨sz (by decide), ?_⟩
    rw [bin_fdiv]
    refine ⟨⟨by decide, by decide +kernel⟩, ?_⟩
    rw [bin_mod]
    refine ⟨by decide, ?_⟩
    rw [cmp_eqI]
    generalize decide (one / 63 % 16 = 5) = b
    rw [← hRb]
    cases b
    · simp only [intW, Bool.false_eq_true, if_false, atI_0]
      exact begun_h hG176 hG415 j hra1 hra hr hn hk3 hT (by omega) (by omega) fun T' F' E' S' h b hT' j' => ⟨T', F', E', _, _, _, _, _, hT', j', rfl⟩
    · simp only [intW, if_true, atI_1]
      exact begun_h hG176 hG415 j hra1 hra hr hn hk3 hT (by omega) (by omega) fun T' F' E' S' h b hT' j' => ⟨T', F', E', _, _, _, _, _, hT', j', rfl⟩
  · rintro σ' S' ⟨T, F, E, b3, b4, b5, b6, b7, hT, j, rfl⟩
    rw [rng_len] at hT
    refine ⟨trivial, ?_⟩
    rw [← hR]
    exact begun_end hG427 j fun aP aS S3 jm => ⟨_, Sub.refl _, hq aP aS s gd ⟨T, []⟩ F E S3 jm (by show 1 ≤ T.length; omega) (by show T.length ≤ 3; omega) rfl⟩
def N_law_deed_v6 : List Str := ["panes", "m", "r", "far", "stand", "word", "pane", "fact", "away"]
def ir_law_deed_v6 : ISs := .cons (.set 4 (.mat (.srtd (.idx (.var 1) (.cst (.int 0)))))) (.cons (.set 5 (.bin .mod (.idx (.var 2) (.cst (.int 0))) (.cst (.int 16)))) (.cons (.iff (.or (.eql true (.of (.var 4)) (.t (.dsp (.nil)))) (.and (.cmp .lt (.var 5) (.cst (.int 4))) (.cmp .lt (.len (.var 4)) (.cst (.int 12))))) (.cons (.exp (.call 178 (.cons (.var 0) (.cons (.var 1) (.cons (.var 2) (.cons (.var 3) .nil)))))) (.cons (.retN) .nil)) (.nil)) (.cons (.set 6 (.idx (.var 4) (.bin .mod (.idx (.var 2) (.cst (.int 1))) (.len (.var 4))))) (.cons (.set 7 (.idx (.idx (.var 1) (.cst (.int 0))) (.var 6))) (.cons (.iff (.cmp .lt (.var 5) (.cst (.int 6))) (.cons (.set 8 (.bin .mul (.var 3) (.intE (.or (.cmp .eq (.idx (.var 7) (.cst (.int 0))) (.cst (.int 0))) (.cmp .eq (.bin .mod (.bin .fdiv (.idx (.var 2) (.cst (.int 3))) (.cst (.int 221))) (.cst (.int 7))) (.cst (.int 3))))))) (.cons (.asg (.slc (.var 7) (.cst (.int 2)) (.cst (.int 4))) (.mat (.dsp (.cons (.bin .add (.bin .sub (.bin .mod (.idx (.var 2) (.cst (.int 3))) (.cst (.int 17))) (.cst (.int 5))) (.var 8)) (.cons (.bin .sub (.bin .sub (.bin .mod (.bin .fdiv (.idx (.var 2) (.cst (.int 3))) (.cst (.int 17))) (.cst (.int 13))) (.cst (.int 4))) (.var 8)) .nil))))) (.cons (.exp (.meth 436 11 "move" (.var 0) (.cons (.var 6) (.cons (.idx (.var 7) (.cst (.int 2))) (.cons (.idx (.var 7) (.cst (.int 3))) .nil))))) .nil))) (.cons (.iff (.cmp .eq (.var 5) (.cst (.int 6))) (.cons (.asg (.slc (.var 7) (.cst (.int 4)) (.cst (.int 6))) (.mat (.dsp (.cons (.bin .add (.cst (.int 1)) (.bin .mod (.idx (.var 2) (.cst (.int 3))) (.cst (.int 9)))) (.cons (.bin .add (.cst (.int 1)) (.bin .mod (.bin .fdiv (.idx (.var 2) (.cst (.int 3))) (.cst (.int 9))) (.cst (.int 7)))) .nil))))) (.cons (.exp (.meth 437 11 "resize" (.var 0) (.cons (.var 6) (.cons (.idx (.var 7) (.cst (.int 4))) (.cons (.idx (.var 7) (.cst (.int 5))) .nil))))) .nil)) (.cons (.iff (.cmp .eq (.var 5) (.cst (.int 7))) (.cons (.asg (.slc (.var 7) (.cst (.int 6)) (.cst (.int 8))) (.mat (.dsp (.cons (.bin .add (.bin .sub (.bin .mod (.idx (.var 2) (.cst (.int 3))) (.cst (.int 11))) (.cst (.int 4))) (.idl (.t (.dsp (.cons (.cst (.int 0)) (.cons (.cst (.int 100000000000000000000000000000000000000000000000000000000000)) .nil)))) (.intE (.cmp .eq (.bin .mod (.idx (.var 2) (.cst (.int 2))) (.cst (.int 8))) (.cst (.int 3)))))) (.cons (.bin .sub (.bin .mod (.bin .fdiv (.idx (.var 2) (.cst (.int 3))) (.cst (.int 11))) (.cst (.int 9))) (.cst (.int 3))) .nil))))) (.cons (.iff (.cmp .eq (.bin .mod (.idx (.var 2) (.cst (.int 2))) (.cst (.int 8))) (.cst (.int 5))) (.cons (.asg (.sub (.var 7) (.cst (.int 7))) (.bin .sub (.idx (.var 7) (.cst (.int 7))) (.cst (.int 100000000000000000000000000000000000000000000000000000000000)))) .nil) (.nil)) (.cons (.exp (.meth 438 11 "scroll" (.var 0) (.cons (.var 6) (.cons (.idx (.var 7) (.cst (.int 6))) (.cons (.idx (.var 7) (.cst (.int 7))) .nil))))) .nil))) (.cons (.iff (.cmp .eq (.var 5) (.cst (.int 8))) (.cons (.asg (.sub (.var 7) (.cst (.int 1))) (.bin .mod (.idx (.var 2) (.cst (.int 2))) (.len (.idx (.var 1) (.cst (.int 3)))))) (.cons (.exp (.meth 439 11 "turn" (.var 0) (.cons (.var 6) (.cons (.idx (.var 7) (.cst (.int 1))) .nil)))) .nil)) (.cons (.iff (.cmp .lt (.var 5) (.cst (.int 11))) (.cons (.exp (.call 180 (.cons (.var 0) (.cons (.var 1) (.cons (.var 6) (.cons (.var 2) .nil)))))) .nil) (.cons (.iff (.cmp .eq (.var 5) (.cst (.int 11))) (.cons (.asg (.sub (.var 7) (.cst (.int 8))) (.cst (.bl true))) (.cons (.exp (.meth 444 11 "hide" (.var 0) (.cons (.var 6) .nil))) .nil)) (.cons (.iff (.cmp .eq (.var 5) (.cst (.int 12))) (.cons (.asg (.sub (.var 7) (.cst (.int 8))) (.cst (.bl false))) (.cons (.exp (.meth 445 11 "show" (.var 0) (.cons (.var 6) .nil))) .nil)) (.cons (.iff (.cmp .eq (.var 5) (.cst (.int 13))) (.cons (.exp (.call 181 (.cons (.var 0) (.cons (.var 1) (.cons (.var 6) .nil))))) .nil) (.cons (.exp (.call 182 (.cons (.var 0) (.cons (.var 1) (.cons (.var 2) .nil))))) .nil)) .nil)) .nil)) .nil)) .nil)) .nil)) .nil)) .nil)) .nil)))))
def ir_law_deed_v6_t3 : ISs := .cons (.set 6 (.idx (.var 4) (.bin .mod (.idx (.var 2) (.cst (.int 1))) (.len (.var 4))))) (.cons (.set 7 (.idx (.idx (.var 1) (.cst (.int 0))) (.var 6))) (.cons (.iff (.cmp .lt (.var 5) (.cst (.int 6))) (.cons (.set 8 (.bin .mul (.var 3) (.intE (.or (.cmp .eq (.idx (.var 7) (.cst (.int 0))) (.cst (.int 0))) (.cmp .eq (.bin .mod (.bin .fdiv (.idx (.var 2) (.cst (.int 3))) (.cst (.int 221))) (.cst (.int 7))) (.cst (.int 3))))))) (.cons (.asg (.slc (.var 7) (.cst (.int 2)) (.cst (.int 4))) (.mat (.dsp (.cons (.bin .add (.bin .sub (.bin .mod (.idx (.var 2) (.cst (.int 3))) (.cst (.int 17))) (.cst (.int 5))) (.var 8)) (.cons (.bin .sub (.bin .sub (.bin .mod (.bin .fdiv (.idx (.var 2) (.cst (.int 3))) (.cst (.int 17))) (.cst (.int 13))) (.cst (.int 4))) (.var 8)) .nil))))) (.cons (.exp (.meth 436 11 "move" (.var 0) (.cons (.var 6) (.cons (.idx (.var 7) (.cst (.int 2))) (.cons (.idx (.var 7) (.cst (.int 3))) .nil))))) .nil))) (.cons (.iff (.cmp .eq (.var 5) (.cst (.int 6))) (.cons (.asg (.slc (.var 7) (.cst (.int 4)) (.cst (.int 6))) (.mat (.dsp (.cons (.bin .add (.cst (.int 1)) (.bin .mod (.idx (.var 2) (.cst (.int 3))) (.cst (.int 9)))) (.cons (.bin .add (.cst (.int 1)) (.bin .mod (.bin .fdiv (.idx (.var 2) (.cst (.int 3))) (.cst (.int 9))) (.cst (.int 7)))) .nil))))) (.cons (.exp (.meth 437 11 "resize" (.var 0) (.cons (.var 6) (.cons (.idx (.var 7) (.cst (.int 4))) (.cons (.idx (.var 7) (.cst (.int 5))) .nil))))) .nil)) (.cons (.iff (.cmp .eq (.var 5) (.cst (.int 7))) (.cons (.asg (.slc (.var 7) (.cst (.int 6)) (.cst (.int 8))) (.mat (.dsp (.cons (.bin .add (.bin .sub (.bin .mod (.idx (.var 2) (.cst (.int 3))) (.cst (.int 11))) (.cst (.int 4))) (.idl (.t (.dsp (.cons (.cst (.int 0)) (.cons (.cst (.int 100000000000000000000000000000000000000000000000000000000000)) .nil)))) (.intE (.cmp .eq (.bin .mod (.idx (.var 2) (.cst (.int 2))) (.cst (.int 8))) (.cst (.int 3)))))) (.cons (.bin .sub (.bin .mod (.bin .fdiv (.idx (.var 2) (.cst (.int 3))) (.cst (.int 11))) (.cst (.int 9))) (.cst (.int 3))) .nil))))) (.cons (.iff (.cmp .eq (.bin .mod (.idx (.var 2) (.cst (.int 2))) (.cst (.int 8))) (.cst (.int 5))) (.cons (.asg (.sub (.var 7) (.cst (.int 7))) (.bin .sub (.idx (.var 7) (.cst (.int 7))) (.cst (.int 100000000000000000000000000000000000000000000000000000000000)))) .nil) (.nil)) (.cons (.exp (.meth 438 11 "scroll" (.var 0) (.cons (.var 6) (.cons (.idx (.var 7) (.cst (.int 6))) (.cons (.idx (.var 7) (.cst (.int 7))) .nil))))) .nil))) (.cons (.iff (.cmp .eq (.var 5) (.cst (.int 8))) (.cons (.asg (.sub (.var 7) (.cst (.int 1))) (.bin .mod (.idx (.var 2) (.cst (.int 2))) (.len (.idx (.var 1) (.cst (.int 3)))))) (.cons (.exp (.meth 439 11 "turn" (.var 0) (.cons (.var 6) (.cons (.idx (.var 7) (.cst (.int 1))) .nil)))) .nil)) (.cons (.iff (.cmp .lt (.var 5) (.cst (.int 11))) (.cons (.exp (.call 180 (.cons (.var 0) (.cons (.var 1) (.cons (.var 6) (.cons (.var 2) .nil)))))) .nil) (.cons (.iff (.cmp .eq (.var 5) (.cst (.int 11))) (.cons (.asg (.sub (.var 7) (.cst (.int 8))) (.cst (.bl true))) (.cons (.exp (.meth 444 11 "hide" (.var 0) (.cons (.var 6) .nil))) .nil)) (.cons (.iff (.cmp .eq (.var 5) (.cst (.int 12))) (.cons (.asg (.sub (.var 7) (.cst (.int 8))) (.cst (.bl false))) (.cons (.exp (.meth 445 11 "show" (.var 0) (.cons (.var 6) .nil))) .nil)) (.cons (.iff (.cmp .eq (.var 5) (.cst (.int 13))) (.cons (.exp (.call 181 (.cons (.var 0) (.cons (.var 1) (.cons (.var 6) .nil))))) .nil) (.cons (.exp (.call 182 (.cons (.var 0) (.cons (.var 1) (.cons (.var 2) .nil))))) .nil)) .nil)) .nil)) .nil)) .nil)) .nil)) .nil)) .nil)) .nil))
def ir_law_deed_v6_t5 : ISs := .cons (.iff (.cmp .lt (.var 5) (.cst (.int 6))) (.cons (.set 8 (.bin .mul (.var 3) (.intE (.or (.cmp .eq (.idx (.var 7) (.cst (.int 0))) (.cst (.int 0))) (.cmp .eq (.bin .mod (.bin .fdiv (.idx (.var 2) (.cst (.int 3))) (.cst (.int 221))) (.cst (.int 7))) (.cst (.int 3))))))) (.cons (.asg (.slc (.var 7) (.cst (.int 2)) (.cst (.int 4))) (.mat (.dsp (.cons (.bin .add (.bin .sub (.bin .mod (.idx (.var 2) (.cst (.int 3))) (.cst (.int 17))) (.cst (.int 5))) (.var 8)) (.cons (.bin .sub (.bin .sub (.bin .mod (.bin .fdiv (.idx (.var 2) (.cst (.int 3))) (.cst (.int 17))) (.cst (.int 13))) (.cst (.int 4))) (.var 8)) .nil))))) (.cons (.exp (.meth 436 11 "move" (.var 0) (.cons (.var 6) (.cons (.idx (.var 7) (.cst (.int 2))) (.cons (.idx (.var 7) (.cst (.int 3))) .nil))))) .nil))) (.cons (.iff (.cmp .eq (.var 5) (.cst (.int 6))) (.cons (.asg (.slc (.var 7) (.cst (.int 4)) (.cst (.int 6))) (.mat (.dsp (.cons (.bin .add (.cst (.int 1)) (.bin .mod (.idx (.var 2) (.cst (.int 3))) (.cst (.int 9)))) (.cons (.bin .add (.cst (.int 1)) (.bin .mod (.bin .fdiv (.idx (.var 2) (.cst (.int 3))) (.cst (.int 9))) (.cst (.int 7)))) .nil))))) (.cons (.exp (.meth 437 11 "resize" (.var 0) (.cons (.var 6) (.cons (.idx (.var 7) (.cst (.int 4))) (.cons (.idx (.var 7) (.cst (.int 5))) .nil))))) .nil)) (.cons (.iff (.cmp .eq (.var 5) (.cst (.int 7))) (.cons (.asg (.slc (.var 7) (.cst (.int 6)) (.cst (.int 8))) (.mat (.dsp (.cons (.bin .add (.bin .sub (.bin .mod (.idx (.var 2) (.cst (.int 3))) (.cst (.int 11))) (.cst (.int 4))) (.idl (.t (.dsp (.cons (.cst (.int 0)) (.cons (.cst (.int 100000000000000000000000000000000000000000000000000000000000)) .nil)))) (.intE (.cmp .eq (.bin .mod (.idx (.var 2) (.cst (.int 2))) (.cst (.int 8))) (.cst (.int 3)))))) (.cons (.bin .sub (.bin .mod (.bin .fdiv (.idx (.var 2) (.cst (.int 3))) (.cst (.int 11))) (.cst (.int 9))) (.cst (.int 3))) .nil))))) (.cons (.iff (.cmp .eq (.bin .mod (.idx (.var 2) (.cst (.int 2))) (.cst (.int 8))) (.cst (.int 5))) (.cons (.asg (.sub (.var 7) (.cst (.int 7))) (.bin .sub (.idx (.var 7) (.cst (.int 7))) (.cst (.int 100000000000000000000000000000000000000000000000000000000000)))) .nil) (.nil)) (.cons (.exp (.meth 438 11 "scroll" (.var 0) (.cons (.var 6) (.cons (.idx (.var 7) (.cst (.int 6))) (.cons (.idx (.var 7) (.cst (.int 7))) .nil))))) .nil))) (.cons (.iff (.cmp .eq (.var 5) (.cst (.int 8))) (.cons (.asg (.sub (.var 7) (.cst (.int 1))) (.bin .mod (.idx (.var 2) (.cst (.int 2))) (.len (.idx (.var 1) (.cst (.int 3)))))) (.cons (.exp (.meth 439 11 "turn" (.var 0) (.cons (.var 6) (.cons (.idx (.var 7) (.cst (.int 1))) .nil)))) .nil)) (.cons (.iff (.cmp .lt (.var 5) (.cst (.int 11))) (.cons (.exp (.call 180 (.cons (.var 0) (.cons (.var 1) (.cons (.var 6) (.cons (.var 2) .nil)))))) .nil) (.cons (.iff (.cmp .eq (.var 5) (.cst (.int 11))) (.cons (.asg (.sub (.var 7) (.cst (.int 8))) (.cst (.bl true))) (.cons (.exp (.meth 444 11 "hide" (.var 0) (.cons (.var 6) .nil))) .nil)) (.cons (.iff (.cmp .eq (.var 5) (.cst (.int 12))) (.cons (.asg (.sub (.var 7) (.cst (.int 8))) (.cst (.bl false))) (.cons (.exp (.meth 445 11 "show" (.var 0) (.cons (.var 6) .nil))) .nil)) (.cons (.iff (.cmp .eq (.var 5) (.cst (.int 13))) (.cons (.exp (.call 181 (.cons (.var 0) (.cons (.var 1) (.cons (.var 6) .nil))))) .nil) (.cons (.exp (.call 182 (.cons (.var 0) (.cons (.var 1) (.cons (.var 2) .nil))))) .nil)) .nil)) .nil)) .nil)) .nil)) .nil)) .nil)) .nil)) .nil
def ir_law_deed_v6_t5_0 : ISs := .cons (.set 8 (.bin .mul (.var 3) (.intE (.or (.cmp .eq (.idx (.var 7) (.cst (.int 0))) (.cst (.int 0))) (.cmp .eq (.bin .mod (.bin .fdiv (.idx (.var 2) (.cst (.int 3))) (.cst (.int 221))) (.cst (.int 7))) (.cst (.int 3))))))) (.cons (.asg (.slc (.var 7) (.cst (.int 2)) (.cst (.int 4))) (.mat (.dsp (.cons (.bin .add (.bin .sub (.bin .mod (.idx (.var 2) (.cst (.int 3))) (.cst (.int 17))) (.cst (.int 5))) (.var 8)) (.cons (.bin .sub (.bin .sub (.bin .mod (.bin .fdiv (.idx (.var 2) (.cst (.int 3))) (.cst (.int 17))) (.cst (.int 13))) (.cst (.int 4))) (.var 8)) .nil))))) (.cons (.exp (.meth 436 11 "move" (.var 0) (.cons (.var 6) (.cons (.idx (.var 7) (.cst (.int 2))) (.cons (.idx (.var 7) (.cst (.int 3))) .nil))))) .nil))
def ir_law_deed_v6_t5_1 : ISs := .cons (.asg (.slc (.var 7) (.cst (.int 2)) (.cst (.int 4))) (.mat (.dsp (.cons (.bin .add (.bin .sub (.bin .mod (.idx (.var 2) (.cst (.int 3))) (.cst (.int 17))) (.cst (.int 5))) (.var 8)) (.cons (.bin .sub (.bin .sub (.bin .mod (.bin .fdiv (.idx (.var 2) (.cst (.int 3))) (.cst (.int 17))) (.cst (.int 13))) (.cst (.int 4))) (.var 8)) .nil))))) (.cons (.exp (.meth 436 11 "move" (.var 0) (.cons (.var 6) (.cons (.idx (.var 7) (.cst (.int 2))) (.cons (.idx (.var 7) (.cst (.int 3))) .nil))))) .nil)
def ir_law_deed_v6_t5_2 : ISs := .cons (.exp (.meth 436 11 "move" (.var 0) (.cons (.var 6) (.cons (.idx (.var 7) (.cst (.int 2))) (.cons (.idx (.var 7) (.cst (.int 3))) .nil))))) .nil
def ir_law_deed_v6_t5e_0 : ISs := .cons (.iff (.cmp .eq (.var 5) (.cst (.int 6))) (.cons (.asg (.slc (.var 7) (.cst (.int 4)) (.cst (.int 6))) (.mat (.dsp (.cons (.bin .add (.cst (.int 1)) (.bin .mod (.idx (.var 2) (.cst (.int 3))) (.cst (.int 9)))) (.cons (.bin .add (.cst (.int 1)) (.bin .mod (.bin .fdiv (.idx (.var 2) (.cst (.int 3))) (.cst (.int 9))) (.cst (.int 7)))) .nil))))) (.cons (.exp (.meth 437 11 "resize" (.var 0) (.cons (.var 6) (.cons (.idx (.var 7) (.cst (.int 4))) (.cons (.idx (.var 7) (.cst (.int 5))) .nil))))) .nil)) (.cons (.iff (.cmp .eq (.var 5) (.cst (.int 7))) (.cons (.asg (.slc (.var 7) (.cst (.int 6)) (.cst (.int 8))) (.mat (.dsp (.cons (.bin .add (.bin .sub (.bin .mod (.idx (.var 2) (.cst (.int 3))) (.cst (.int 11))) (.cst (.int 4))) (.idl (.t (.dsp (.cons (.cst (.int 0)) (.cons (.cst (.int 100000000000000000000000000000000000000000000000000000000000)) .nil)))) (.intE (.cmp .eq (.bin .mod (.idx (.var 2) (.cst (.int 2))) (.cst (.int 8))) (.cst (.int 3)))))) (.cons (.bin .sub (.bin .mod (.bin .fdiv (.idx (.var 2) (.cst (.int 3))) (.cst (.int 11))) (.cst (.int 9))) (.cst (.int 3))) .nil))))) (.cons (.iff (.cmp .eq (.bin .mod (.idx (.var 2) (.cst (.int 2))) (.cst (.int 8))) (.cst (.int 5))) (.cons (.asg (.sub (.var 7) (.cst (.int 7))) (.bin .sub (.idx (.var 7) (.cst (.int 7))) (.cst (.int 100000000000000000000000000000000000000000000000000000000000)))) .nil) (.nil)) (.cons (.exp (.meth 438 11 "scroll" (.var 0) (.cons (.var 6) (.cons (.idx (.var 7) (.cst (.int 6))) (.cons (.idx (.var 7) (.cst (.int 7))) .nil))))) .nil))) (.cons (.iff (.cmp .eq (.var 5) (.cst (.int 8))) (.cons (.asg (.sub (.var 7) (.cst (.int 1))) (.bin .mod (.idx (.var 2) (.cst (.int 2))) (.len (.idx (.var 1) (.cst (.int 3)))))) (.cons (.exp (.meth 439 11 "turn" (.var 0) (.cons (.var 6) (.cons (.idx (.var 7) (.cst (.int 1))) .nil)))) .nil)) (.cons (.iff (.cmp .lt (.var 5) (.cst (.int 11))) (.cons (.exp (.call 180 (.cons (.var 0) (.cons (.var 1) (.cons (.var 6) (.cons (.var 2) .nil)))))) .nil) (.cons (.iff (.cmp .eq (.var 5) (.cst (.int 11))) (.cons (.asg (.sub (.var 7) (.cst (.int 8))) (.cst (.bl true))) (.cons (.exp (.meth 444 11 "hide" (.var 0) (.cons (.var 6) .nil))) .nil)) (.cons (.iff (.cmp .eq (.var 5) (.cst (.int 12))) (.cons (.asg (.sub (.var 7) (.cst (.int 8))) (.cst (.bl false))) (.cons (.exp (.meth 445 11 "show" (.var 0) (.cons (.var 6) .nil))) .nil)) (.cons (.iff (.cmp .eq (.var 5) (.cst (.int 13))) (.cons (.exp (.call 181 (.cons (.var 0) (.cons (.var 1) (.cons (.var 6) .nil))))) .nil) (.cons (.exp (.call 182 (.cons (.var 0) (.cons (.var 1) (.cons (.var 2) .nil))))) .nil)) .nil)) .nil)) .nil)) .nil)) .nil)) .nil)) .nil
def ir_law_deed_v6_t5e_0_0 : ISs := .cons (.asg (.slc (.var 7) (.cst (.int 4)) (.cst (.int 6))) (.mat (.dsp (.cons (.bin .add (.cst (.int 1)) (.bin .mod (.idx (.var 2) (.cst (.int 3))) (.cst (.int 9)))) (.cons (.bin .add (.cst (.int 1)) (.bin .mod (.bin .fdiv (.idx (.var 2) (.cst (.int 3))) (.cst (.int 9))) (.cst (.int 7)))) .nil))))) (.cons (.exp (.meth 437 11 "resize" (.var 0) (.cons (.var 6) (.cons (.idx (.var 7) (.cst (.int 4))) (.cons (.idx (.var 7) (.cst (.int 5))) .nil))))) .nil)
def ir_law_deed_v6_t5e_0_1 : ISs := .cons (.exp (.meth 437 11 "resize" (.var 0) (.cons (.var 6) (.cons (.idx (.var 7) (.cst (.int 4))) (.cons (.idx (.var 7) (.cst (.int 5))) .nil))))) .nil
def ir_law_deed_v6_t5e_0e_0 : ISs := .cons (.iff (.cmp .eq (.var 5) (.cst (.int 7))) (.cons (.asg (.slc (.var 7) (.cst (.int 6)) (.cst (.int 8))) (.mat (.dsp (.cons (.bin .add (.bin .sub (.bin .mod (.idx (.var 2) (.cst (.int 3))) (.cst (.int 11))) (.cst (.int 4))) (.idl (.t (.dsp (.cons (.cst (.int 0)) (.cons (.cst (.int 100000000000000000000000000000000000000000000000000000000000)) .nil)))) (.intE (.cmp .eq (.bin .mod (.idx (.var 2) (.cst (.int 2))) (.cst (.int 8))) (.cst (.int 3)))))) (.cons (.bin .sub (.bin .mod (.bin .fdiv (.idx (.var 2) (.cst (.int 3))) (.cst (.int 11))) (.cst (.int 9))) (.cst (.int 3))) .nil))))) (.cons (.iff (.cmp .eq (.bin .mod (.idx (.var 2) (.cst (.int 2))) (.cst (.int 8))) (.cst (.int 5))) (.cons (.asg (.sub (.var 7) (.cst (.int 7))) (.bin .sub (.idx (.var 7) (.cst (.int 7))) (.cst (.int 100000000000000000000000000000000000000000000000000000000000)))) .nil) (.nil)) (.cons (.exp (.meth 438 11 "scroll" (.var 0) (.cons (.var 6) (.cons (.idx (.var 7) (.cst (.int 6))) (.cons (.idx (.var 7) (.cst (.int 7))) .nil))))) .nil))) (.cons (.iff (.cmp .eq (.var 5) (.cst (.int 8))) (.cons (.asg (.sub (.var 7) (.cst (.int 1))) (.bin .mod (.idx (.var 2) (.cst (.int 2))) (.len (.idx (.var 1) (.cst (.int 3)))))) (.cons (.exp (.meth 439 11 "turn" (.var 0) (.cons (.var 6) (.cons (.idx (.var 7) (.cst (.int 1))) .nil)))) .nil)) (.cons (.iff (.cmp .lt (.var 5) (.cst (.int 11))) (.cons (.exp (.call 180 (.cons (.var 0) (.cons (.var 1) (.cons (.var 6) (.cons (.var 2) .nil)))))) .nil) (.cons (.iff (.cmp .eq (.var 5) (.cst (.int 11))) (.cons (.asg (.sub (.var 7) (.cst (.int 8))) (.cst (.bl true))) (.cons (.exp (.meth 444 11 "hide" (.var 0) (.cons (.var 6) .nil))) .nil)) (.cons (.iff (.cmp .eq (.var 5) (.cst (.int 12))) (.cons (.asg (.sub (.var 7) (.cst (.int 8))) (.cst (.bl false))) (.cons (.exp (.meth 445 11 "show" (.var 0) (.cons (.var 6) .nil))) .nil)) (.cons (.iff (.cmp .eq (.var 5) (.cst (.int 13))) (.cons (.exp (.call 181 (.cons (.var 0) (.cons (.var 1) (.cons (.var 6) .nil))))) .nil) (.cons (.exp (.call 182 (.cons (.var 0) (.cons (.var 1) (.cons (.var 2) .nil))))) .nil)) .nil)) .nil)) .nil)) .nil)) .nil)) .nil
def ir_law_deed_v6_t5e_0e_0_0 : ISs := .cons (.asg (.slc (.var 7) (.cst (.int 6)) (.cst (.int 8))) (.mat (.dsp (.cons (.bin .add (.bin .sub (.bin .mod (.idx (.var 2) (.cst (.int 3))) (.cst (.int 11))) (.cst (.int 4))) (.idl (.t (.dsp (.cons (.cst (.int 0)) (.cons (.cst (.int 100000000000000000000000000000000000000000000000000000000000)) .nil)))) (.intE (.cmp .eq (.bin .mod (.idx (.var 2) (.cst (.int 2))) (.cst (.int 8))) (.cst (.int 3)))))) (.cons (.bin .sub (.bin .mod (.bin .fdiv (.idx (.var 2) (.cst (.int 3))) (.cst (.int 11))) (.cst (.int 9))) (.cst (.int 3))) .nil))))) (.cons (.iff (.cmp .eq (.bin .mod (.idx (.var 2) (.cst (.int 2))) (.cst (.int 8))) (.cst (.int 5))) (.cons (.asg (.sub (.var 7) (.cst (.int 7))) (.bin .sub (.idx (.var 7) (.cst (.int 7))) (.cst (.int 100000000000000000000000000000000000000000000000000000000000)))) .nil) (.nil)) (.cons (.exp (.meth 438 11 "scroll" (.var 0) (.cons (.var 6) (.cons (.idx (.var 7) (.cst (.int 6))) (.cons (.idx (.var 7) (.cst (.int 7))) .nil))))) .nil))
def ir_law_deed_v6_t5e_0e_0_1 : ISs := .cons (.iff (.cmp .eq (.bin .mod (.idx (.var 2) (.cst (.int 2))) (.cst (.int 8))) (.cst (.int 5))) (.cons (.asg (.sub (.var 7) (.cst (.int 7))) (.bin .sub (.idx (.var 7) (.cst (.int 7))) (.cst (.int 100000000000000000000000000000000000000000000000000000000000)))) .nil) (.nil)) (.cons (.exp (.meth 438 11 "scroll" (.var 0) (.cons (.var 6) (.cons (.idx (.var 7) (.cst (.int 6))) (.cons (.idx (.var 7) (.cst (.int 7))) .nil))))) .nil)
def ir_law_deed_v6_t5e_0e_0_2 : ISs := .cons (.exp (.meth 438 11 "scroll" (.var 0) (.cons (.var 6) (.cons (.idx (.var 7) (.cst (.int 6))) (.cons (.idx (.var 7) (.cst (.int 7))) .nil))))) .nil
def ir_law_deed_v6_t5e_0e_0e_0 : ISs := .cons (.iff (.cmp .eq (.var 5) (.cst (.int 8))) (.cons (.asg (.sub (.var 7) (.cst (.int 1))) (.bin .mod (.idx (.var 2) (.cst (.int 2))) (.len (.idx (.var 1) (.cst (.int 3)))))) (.cons (.exp (.meth 439 11 "turn" (.var 0) (.cons (.var 6) (.cons (.idx (.var 7) (.cst (.int 1))) .nil)))) .nil)) (.cons (.iff (.cmp .lt (.var 5) (.cst (.int 11))) (.cons (.exp (.call 180 (.cons (.var 0) (.cons (.var 1) (.cons (.var 6) (.cons (.var 2) .nil)))))) .nil) (.cons (.iff (.cmp .eq (.var 5) (.cst (.int 11))) (.cons (.asg (.sub (.var 7) (.cst (.int 8))) (.cst (.bl true))) (.cons (.exp (.meth 444 11 "hide" (.var 0) (.cons (.var 6) .nil))) .nil)) (.cons (.iff (.cmp .eq (.var 5) (.cst (.int 12))) (.cons (.asg (.sub (.var 7) (.cst (.int 8))) (.cst (.bl false))) (.cons (.exp (.meth 445 11 "show" (.var 0) (.cons (.var 6) .nil))) .nil)) (.cons (.iff (.cmp .eq (.var 5) (.cst (.int 13))) (.cons (.exp (.call 181 (.cons (.var 0) (.cons (.var 1) (.cons (.var 6) .nil))))) .nil) (.cons (.exp (.call 182 (.cons (.var 0) (.cons (.var 1) (.cons (.var 2) .nil))))) .nil)) .nil)) .nil)) .nil)) .nil)) .nil
def ir_law_deed_v6_t5e_0e_0e_0_0 : ISs := .cons (.asg (.sub (.var 7) (.cst (.int 1))) (.bin .mod (.idx (.var 2) (.cst (.int 2))) (.len (.idx (.var 1) (.cst (.int 3)))))) (.cons (.exp (.meth 439 11 "turn" (.var 0) (.cons (.var 6) (.cons (.idx (.var 7) (.cst (.int 1))) .nil)))) .nil)
def ir_law_deed_v6_t5e_0e_0e_0_1 : ISs := .cons (.exp (.meth 439 11 "turn" (.var 0) (.cons (.var 6) (.cons (.idx (.var 7) (.cst (.int 1))) .nil)))) .nil
def ir_law_deed_v6_t5e_0e_0e_0e_0 : ISs := .cons (.iff (.cmp .lt (.var 5) (.cst (.int 11))) (.cons (.exp (.call 180 (.cons (.var 0) (.cons (.var 1) (.cons (.var 6) (.cons (.var 2) .nil)))))) .nil) (.cons (.iff (.cmp .eq (.var 5) (.cst (.int 11))) (.cons (.asg (.sub (.var 7) (.cst (.int 8))) (.cst (.bl true))) (.cons (.exp (.meth 444 11 "hide" (.var 0) (.cons (.var 6) .nil))) .nil)) (.cons (.iff (.cmp .eq (.var 5) (.cst (.int 12))) (.cons (.asg (.sub (.var 7) (.cst (.int 8))) (.cst (.bl false))) (.cons (.exp (.meth 445 11 "show" (.var 0) (.cons (.var 6) .nil))) .nil)) (.cons (.iff (.cmp .eq (.var 5) (.cst (.int 13))) (.cons (.exp (.call 181 (.cons (.var 0) (.cons (.var 1) (.cons (.var 6) .nil))))) .nil) (.cons (.exp (.call 182 (.cons (.var 0) (.cons (.var 1) (.cons (.var 2) .nil))))) .nil)) .nil)) .nil)) .nil)) .nil
def ir_law_deed_v6_t5e_0e_0e_0e_0e_0 : ISs := .cons (.iff (.cmp .eq (.var 5) (.cst (.int 11))) (.cons (.asg (.sub (.var 7) (.cst (.int 8))) (.cst (.bl true))) (.cons (.exp (.meth 444 11 "hide" (.var 0) (.cons (.var 6) .nil))) .nil)) (.cons (.iff (.cmp .eq (.var 5) (.cst (.int 12))) (.cons (.asg (.sub (.var 7) (.cst (.int 8))) (.cst (.bl false))) (.cons (.exp (.meth 445 11 "show" (.var 0) (.cons (.var 6) .nil))) .nil)) (.cons (.iff (.cmp .eq (.var 5) (.cst (.int 13))) (.cons (.exp (.call 181 (.cons (.var 0) (.cons (.var 1) (.cons (.var 6) .nil))))) .nil) (.cons (.exp (.call 182 (.cons (.var 0) (.cons (.var 1) (.cons (.var 2) .nil))))) .nil)) .nil)) .nil)) .nil
def ir_law_deed_v6_t5e_0e_0e_0e_0e_0_0 : ISs := .cons (.asg (.sub (.var 7) (.cst (.int 8))) (.cst (.bl true))) (.cons (.exp (.meth 444 11 "hide" (.var 0) (.cons (.var 6) .nil))) .nil)
def ir_law_deed_v6_t5e_0e_0e_0e_0e_0_1 : ISs := .cons (.exp (.meth 444 11 "hide" (.var 0) (.cons (.var 6) .nil))) .nil
def ir_law_deed_v6_t5e_0e_0e_0e_0e_0e_0 : ISs := .cons (.iff (.cmp .eq (.var 5) (.cst (.int 12))) (.cons (.asg (.sub (.var 7) (.cst (.int 8))) (.cst (.bl false))) (.cons (.exp (.meth 445 11 "show" (.var 0) (.cons (.var 6) .nil))) .nil)) (.cons (.iff (.cmp .eq (.var 5) (.cst (.int 13))) (.cons (.exp (.call 181 (.cons (.var 0) (.cons (.var 1) (.cons (.var 6) .nil))))) .nil) (.cons (.exp (.call 182 (.cons (.var 0) (.cons (.var 1) (.cons (.var 2) .nil))))) .nil)) .nil)) .nil
def ir_law_deed_v6_t5e_0e_0e_0e_0e_0e_0_0 : ISs := .cons (.asg (.sub (.var 7) (.cst (.int 8))) (.cst (.bl false))) (.cons (.exp (.meth 445 11 "show" (.var 0) (.cons (.var 6) .nil))) .nil)
def ir_law_deed_v6_t5e_0e_0e_0e_0e_0e_0_1 : ISs := .cons (.exp (.meth 445 11 "show" (.var 0) (.cons (.var 6) .nil))) .nil
def ir_law_deed_v6_t5e_0e_0e_0e_0e_0e_0e_0 : ISs := .cons (.iff (.cmp .eq (.var 5) (.cst (.int 13))) (.cons (.exp (.call 181 (.cons (.var 0) (.cons (.var 1) (.cons (.var 6) .nil))))) .nil) (.cons (.exp (.call 182 (.cons (.var 0) (.cons (.var 1) (.cons (.var 2) .nil))))) .nil)) .nil
def sp_law_deed_v6 (cl : Nat → Addr) : MSp := fun ws S Q _ => ∃ (S0 : Sto) (aP aS : PR → Addr) (s gd : Addr) (nw : Int) (P : PS) (d : Int → Nat) (H : Shs) (F E : Fp) (ra : Addr) (rs : List Int) (n : Nat) (far : Int), ws = [.ref (aP .obj), .ref (aS .obj), .ref ra, .int far] ∧ JM cl S0 S aP aS s gd nw P d nw P d H H.gr F E ∧ S ra = some (.lst (rs.map W.int)) ∧ DrOk rs n ∧ 5 ≤ n ∧ ¬ f4 aP aS P P F E ra ∧ FarOk far ∧ 1 ≤ H.gr.length ∧ H.gr.length ≤ 100 ∧ H.dd.length ≤ 1000 ∧ P.kf.length ≤ 40 ∧ DOut cl S0 S aP aS s gd nw P H F E (max 12 P.kf.length) (Q .non)
section
variable {cl : Nat → Addr} {S0 S S1 S2 : Sto} {aP aS aP' aS' : PR → Addr} {s gd : Addr} {nw : Int} {P : PS} {d d' : Int → Nat} {H : Shs} {F E : Fp} {Q : Sto → Prop} {row : PRow}
theorem DOut.rev (hq : DOut cl S0 S aP aS s gd nw P H F E P.kf.length Q) (j : JM cl S0 S aP aS s gd nw P d nw P d H H.gr F E) (hb : row.bad P d H.gr.length = none) (hn : row.nw nw = nw) (hrb : RowB row) (l2 : PLay S1 (mH nw gd) (row.op P d nw) aS) (ow2 : Own (P.fp aS) S ((row.op P d nw).fp aS) S1)
    (l' : PLay S2 (pnH cl s nw) (row.op P d nw) aP') (e1 : aP' .obj = aP .obj) (ow : Own (P.fp aP) S1 ((row.op P d nw).fp aP') S2) : Q S2 := by
  obtain ⟨d', w'⟩ := j.wf.op hb
  rw [hn] at w'
  have j1 := j.done l2 w' ow2
  have j2 := j1.call l' w' ow
  exact hq aP' aS nw _ d' H F E S2 j2 e1 rfl (op_len2 hn) ⟨Nat.le_succ _, Nat.le_succ _, by omega⟩ (Nat.le_refl _) (fun v => ⟨v.1.op j.wf hb, v.2.op j.wf hb hrb⟩) (Own.trans ow2.w2 ow.w1)
theorem DOut.map {N : Nat} {Q' : Sto → Prop} (hq : DOut cl S0 S aP aS s gd nw P H F E N Q) (h : ∀ S', Q S' → Q' S') : DOut cl S0 S aP aS s gd nw P H F E N Q' := fun aP' aS' nw' P' d' H' F' E' S' b1 b2 b3 b4 b5 b6 b7 b8 => h _ (hq aP' aS' nw' P' d' H' F' E' S' b1 b2 b3 b4 b5 b6 b7 b8)
theorem DOut.sub {N : Nat} (hq : DOut cl S0 S aP aS s gd nw P H F E N Q) (sb : Sub S S1) : DOut cl S0 S1 aP aS s gd nw P H F E N Q := fun aP' aS' nw' P' d' H' F' E' S' b1 b2 b3 b4 b5 b6 b7 b8 => hq aP' aS' nw' P' d' H' F' E' S' b1 b2 b3 b4 b5 b6 b7 ((Own.of_sub sb).trans b8)
end
structure DB (cl : Nat → Addr) (S0 S : Sto) (aP aS : PR → Addr) (s gd : Addr) (nw : Int) (P : PS) (d : Int → Nat) (H : Shs) (F E : Fp) (ra : Addr) (rs : List Int) (n : Nat) (far : Int) (k : Int) (Q : Sto → Prop) : Prop where
  j : JM cl S0 S aP aS s gd nw P d nw P d H H.gr F E
  ra_ : S ra = some (.lst (rs.map W.int))
  dr : DrOk rs n
  n5 : 5 ≤ n
  nra : ¬ f4 aP aS P P F E ra
  far_ : FarOk far
  t1 : 1 ≤ H.gr.length
  t2 : H.gr.length ≤ 100
  t3 : H.dd.length ≤ 1000
  kl : P.kf.length ≤ 40
  k_ : k ∈ P.kf
  hq : DOut cl S0 S aP aS s gd nw P H F E P.kf.length Q
section
variable {G : Gs} {D : MEnds} {S0 S : Sto} {aP aS : PR → Addr} {s gd ra : Addr} {nw : Int} {P : PS} {d : Int → Nat} {H : Shs} {F E : Fp} {rs : List Int} {n : Nat} {far k : Int} {a4 a5 : Option W}
theorem deed_move2 (hG436 : G 436 = sp_Panes_move G.cl) {a : Int} (hfa : FarOk a) (b : DB G.cl S0 S aP aS s gd nw P d H F E ra rs n far k (fun S' => ∀ σ, D.nx σ S')) :
    wpSs G ir_law_deed_v6_t5_1 D [some (.ref (aP .obj)), some (.ref (aS .obj)), some (.ref ra), some (.int far), a4, a5, some (.int k), some (.ref (aS (.fact k))), some (.int a)] S := by
  have j := b.j
  have l := j.st
  have hk := b.k_
  have kl := b.kl
  have t2 := b.t2
  have a3 : atI (rs.map W.int) 3 = some (.int (rg rs 3)) := rg_ix b.dr (i := 3) (by have := b.n5; omega)
  unfold ir_law_deed_v6_t5_1
  show wpSs G (.cons _ ir_law_deed_v6_t5_2) _ _ _
  generalize hR : ir_law_deed_v6_t5_2 = R
  walk_at "wp"
  simp only [b.ra_, a3]
  rw [bin_mod]
  refine ⟨by decide, ?_⟩
  rw [bin_sub, bin_addI, bin_fdiv]
  refine ⟨⟨by decide, by decide +kernel⟩, ?_⟩
  rw [bin_mod]
  refine ⟨by decide, ?_⟩
  rw [bin_sub, bin_sub]
  obtain ⟨hfa0, hfa1⟩ := hfa
  have bx : -(10 ^ 65) ≤ rg rs 3 % 17 - 5 + a ∧ rg rs 3 % 17 - 5 + a ≤ 10 ^ 65 := by omega
  have by' : -(10 ^ 65) ≤ rg rs 3 / 17 % 13 - 4 - a ∧ rg rs 3 / 17 % 13 - 4 - a ≤ 10 ^ 65 := by omega
  generalize rg rs 3 % 17 - 5 + a = x at *
  generalize rg rs 3 / 17 % 13 - 4 - a = y at *
  have hrb : RowB (.move k x y) := ⟨bx, by'⟩
  refine ⟨by rw [sizeLine_val]; decide, fun q hq => ?_⟩
  refine sls_fact (i := 2) (j := 4) (l.fact hk) hq rfl (by decide) (xs := fcL { P.f k with x := x, y := y }) rfl ?_
  have sb : Sub S (put S q (.lst [.int x, .int y])) := Sub.put hq
  have j1 := j.less sb
  have hq1 := b.hq.sub sb
  have l2 := j1.st.setF hk (v := { P.f k with x := x, y := y })
  have ow2 : Own (P.fp aS) (put S q (.lst [.int x, .int y])) (P.fp aS) (put (put S q (.lst [.int x, .int y])) (aS (.fact k)) (.lst (fcL { P.f k with x := x, y := y }))) := own_fact hk
  generalize put S q (.lst [.int x, .int y]) = S1 at *
  have j2 := j1.done l2 (j1.wf.opF rfl) ow2
  generalize put S1 (aS (.fact k)) (.lst (fcL { P.f k with x := x, y := y })) = S2 at *
  rw [← hR]
  unfold ir_law_deed_v6_t5_2
  walk_at "wp"
  have hb : (PRow.move k x y).bad P d H.gr.length = none := if_neg (fun z => z hk)
  have e2 := l2.fact (k := k) hk
  rw [show (opF P k { P.f k with x := x, y := y }).f k = { P.f k with x := x, y := y } from upI_same] at e2
  rw [e2]
  simp only [hG436]
  refine ⟨j2.pn.ins (by decide +kernel), aP, s, nw, P, d, H.gr.length, k, x, y, rfl, j2.ctx (by omega) (by omega), POut.of (fun _ => fun aP' S3 l' e1 ow => ?_) fun m e => by rw [hb] at e; cases e⟩
  exact hq1.rev (row := .move k x y) j1 hb rfl hrb l2 ow2 l' e1 ow _
theorem deed_move (hG436 : G 436 = sp_Panes_move G.cl) (b : DB G.cl S0 S aP aS s gd nw P d H F E ra rs n far k (fun S' => ∀ σ, D.nx σ S')) :
    wpSs G ir_law_deed_v6_t5_0 D [some (.ref (aP .obj)), some (.ref (aS .obj)), some (.ref ra), some (.int far), a4, a5, some (.int k), some (.ref (aS (.fact k))), none] S := by
  have j := b.j
  have l := j.st
  have a3 : atI (rs.map W.int) 3 = some (.int (rg rs 3)) := rg_ix b.dr (i := 3) (by have := b.n5; omega)
  unfold ir_law_deed_v6_t5_0
  show wpSs G (.cons _ ir_law_deed_v6_t5_1) _ _ _
  generalize hR : ir_law_deed_v6_t5_1 = R
  walk_at "wp"
  simp only [b.ra_, a3, l.fact b.k_]
  rw [show atI (fcL (P.f k)) 0 = some (.int (P.f k).par) from rfl]
  dsimp only
  rw [cmp_eqI]
  have fin : ∀ a, FarOk a → wpSs G R D [some (.ref (aP .obj)), some (.ref (aS .obj)), some (.ref ra), some (.int far), a4, a5, some (.int k), some (.ref (aS (.fact k))), some (.int a)] S := fun a hfa => by
    rw [← hR]
    exact deed_move2 hG436 hfa b
  split
  · exact away_ok b.far_ fin
  · rw [bin_fdiv]
    refine ⟨⟨by decide, by decide +kernel⟩, ?_⟩
    rw [bin_mod]
    refine ⟨by decide, ?_⟩
    rw [cmp_eqI]
    exact away_ok b.far_ fin
theorem deed_resize (hG437 : G 437 = sp_Panes_resize G.cl) (b : DB G.cl S0 S aP aS s gd nw P d H F E ra rs n far k (fun S' => ∀ σ, D.nx σ S')) :
    wpSs G ir_law_deed_v6_t5e_0_0 D [some (.ref (aP .obj)), some (.ref (aS .obj)), some (.ref ra), some (.int far), a4, a5, some (.int k), some (.ref (aS (.fact k))), none] S := by
  have j := b.j
  have l := j.st
  have hk := b.k_
  have kl := b.kl
  have t1 := b.t1
  have t2 := b.t2
  have n5 := b.n5
  have sz : ∀ {n : Nat}, n ≤ 1000 → n ≤ sizeLine := fun h => by rw [sizeLine_val]; omega
  have a3 : atI (rs.map W.int) 3 = some (.int (rg rs 3)) := rg_ix b.dr (i := 3) (by omega)
  unfold ir_law_deed_v6_t5e_0_0
  show wpSs G (.cons _ ir_law_deed_v6_t5e_0_1) _ _ _
  generalize hR : ir_law_deed_v6_t5e_0_1 = R
  walk_at "wp"
  simp only [b.ra_, a3]
  rw [bin_mod]
  refine ⟨by decide, ?_⟩
  rw [bin_addI, bin_fdiv]
  refine ⟨⟨by decide, by decide +kernel⟩, ?_⟩
  rw [bin_mod]
  refine ⟨by decide, ?_⟩
  rw [bin_addI]
  have m9 : 0 ≤ rg rs 3 % 9 := Int.emod_nonneg _ (by decide)
  have m7 : 0 ≤ rg rs 3 / 9 % 7 := Int.emod_nonneg _ (by decide)
  have x1 : 1 ≤ 1 + rg rs 3 % 9 := by omega
  have y1 : 1 ≤ 1 + rg rs 3 / 9 % 7 := by omega
  have x2 : 1 + rg rs 3 % 9 ≤ 10 := by omega
  have y2 : 1 + rg rs 3 / 9 % 7 ≤ 10 := by omega
  generalize 1 + rg rs 3 % 9 = x at *
  generalize 1 + rg rs 3 / 9 % 7 = y at *
  have hrb : RowB (.resize k x y) := ⟨by omega, by omega⟩
  refine ⟨sz (by decide), fun q hq => ?_⟩
  refine sls_fact (i := 4) (j := 6) (l.fact hk) hq rfl (by decide) (xs := fcL { P.f k with w := x, h := y }) rfl ?_
  have sb : Sub S (put S q (.lst [.int x, .int y])) := Sub.put hq
  have j1 := j.less sb
  have hq1 := b.hq.sub sb
  have l2 := j1.st.setF hk (v := { P.f k with w := x, h := y })
  have ow2 : Own (P.fp aS) (put S q (.lst [.int x, .int y])) (P.fp aS) (put (put S q (.lst [.int x, .int y])) (aS (.fact k)) (.lst (fcL { P.f k with w := x, h := y }))) := own_fact hk
  generalize put S q (.lst [.int x, .int y]) = S1 at *
  have j2 := j1.done l2 (j1.wf.opF rfl) ow2
  generalize put S1 (aS (.fact k)) (.lst (fcL { P.f k with w := x, h := y })) = S2 at *
  rw [← hR]
  unfold ir_law_deed_v6_t5e_0_1
  walk_at "wp"
  have hb : (PRow.resize k x y).bad P d H.gr.length = none := (if_neg (fun z => z hk)).trans (if_neg (by omega))
  have e2 := l2.fact (k := k) hk
  rw [show (opF P k { P.f k with w := x, h := y }).f k = { P.f k with w := x, h := y } from upI_same] at e2
  rw [e2]
  simp only [hG437]
  refine ⟨j2.pn.ins (by decide +kernel), ?_⟩
  rw [show atI (fcL { P.f k with w := x, h := y }) 4 = some (.int x) from rfl, show atI (fcL { P.f k with w := x, h := y }) 5 = some (.int y) from rfl]
  refine ⟨aP, s, nw, P, d, H.gr.length, k, x, y, rfl, j2.ctx (by omega) (by omega), POut.of (fun _ => fun aP' S3 l' e1 ow => ?_) fun m e => by rw [hb] at e; cases e⟩
  exact hq1.rev (row := .resize k x y) j1 hb rfl hrb l2 ow2 l' e1 ow _
theorem deed_scroll2 (hG438 : G 438 = sp_Panes_scroll G.cl) {S1 S2 : Sto} {x y : Int} (hrb : RowB (.scroll k x y)) {hk : k ∈ P.kf} {kl : P.kf.length ≤ 40} {t2 : H.gr.length ≤ 100} (hq1 : DOut G.cl S0 S1 aP aS s gd nw P H F E P.kf.length (fun S' => ∀ σ, D.nx σ S')) (j1 : JM G.cl S0 S1 aP aS s gd nw P d nw P d H H.gr F E)
    (l2 : PLay S2 (mH nw gd) (opF P k { P.f k with sx := x, sy := y }) aS) (ow2 : Own (P.fp aS) S1 (P.fp aS) S2) :
    wpSs G ir_law_deed_v6_t5e_0e_0_2 D [some (.ref (aP .obj)), some (.ref (aS .obj)), some (.ref ra), some (.int far), a4, a5, some (.int k), some (.ref (aS (.fact k))), none] S2 := by
  have j2 := j1.done l2 (j1.wf.opF rfl) ow2
  unfold ir_law_deed_v6_t5e_0e_0_2
  walk_at "wp"
  have hb : (PRow.scroll k x y).bad P d H.gr.length = none := if_neg (fun z => z hk)
  have e2 := l2.fact (k := k) hk
  rw [show (opF P k { P.f k with sx := x, sy := y }).f k = { P.f k with sx := x, sy := y } from upI_same] at e2
  rw [e2]
  simp only [hG438]
  refine ⟨j2.pn.ins (by decide +kernel), ?_⟩
  rw [show atI (fcL { P.f k with sx := x, sy := y }) 6 = some (.int x) from rfl, show atI (fcL { P.f k with sx := x, sy := y }) 7 = some (.int y) from rfl]
  refine ⟨aP, s, nw, P, d, H.gr.length, k, x, y, rfl, j2.ctx (by omega) (by omega), POut.of (fun _ => fun aP' S3 l' e1 ow => ?_) fun m e => by rw [hb] at e; cases e⟩
  exact hq1.rev (row := .scroll k x y) j1 hb rfl hrb l2 ow2 l' e1 ow _
theorem deed_scroll (hG438 : G 438 = sp_Panes_scroll G.cl) (b : DB G.cl S0 S aP aS s gd nw P d H F E ra rs n far k (fun S' => ∀ σ, D.nx σ S')) :
    wpSs G ir_law_deed_v6_t5e_0e_0_0 D [some (.ref (aP .obj)), some (.ref (aS .obj)), some (.ref ra), some (.int far), a4, a5, some (.int k), some (.ref (aS (.fact k))), none] S := by
  have j := b.j
  have l := j.st
  have hk := b.k_
  have kl := b.kl
  have t1 := b.t1
  have t2 := b.t2
  have n5 := b.n5
  have sz : ∀ {n : Nat}, n ≤ 1000 → n ≤ sizeLine := fun h => by rw [sizeLine_val]; omega
  have a3 : atI (rs.map W.int) 3 = some (.int (rg rs 3)) := rg_ix b.dr (i := 3) (by omega)
  have a2 : atI (rs.map W.int) 2 = some (.int (rg rs 2)) := rg_ix b.dr (i := 2) (by omega)
  unfold ir_law_deed_v6_t5e_0e_0_0
  show wpSs G (.cons _ ir_law_deed_v6_t5e_0e_0_1) _ _ _
  generalize hR : ir_law_deed_v6_t5e_0e_0_1 = R
  walk_at "wp"
  simp only [b.ra_, a3, a2]
  rw [bin_mod]
  refine ⟨by decide, ?_⟩
  rw [bin_sub]
  refine ⟨sz (by decide), ?_⟩
  rw [bin_mod]
  refine ⟨by decide, ?_⟩
  rw [cmp_eqI]
  have fin : ∀ x y : Int, (-(10 ^ 62) ≤ x ∧ x ≤ 10 ^ 62) → (-(10 ^ 62) ≤ y ∧ y ≤ 10 ^ 62) → 2 ≤ sizeLine ∧ ∀ p, S p = none → slsW (.ref (aS (.fact k))) (.int 6) (.int 8) (.ref p) (put S p (.lst [.int x, .int y])) (wpSs G R D [some (.ref (aP .obj)), some (.ref (aS .obj)), some (.ref ra), some (.int far), a4, a5, some (.int k), some (.ref (aS (.fact k))), none]) := fun x y hx62 hy62 => by
    refine ⟨sz (by decide), fun q hq => ?_⟩
    refine sls_fact (i := 6) (j := 8) (l.fact hk) hq rfl (by decide) (xs := fcL { P.f k with sx := x, sy := y }) rfl ?_
    have sb : Sub S (put S q (.lst [.int x, .int y])) := Sub.put hq
    have j1 := j.less sb
    have hq1 := b.hq.sub sb
    have ra1 := sb _ _ b.ra_
    have l2 := j1.st.setF hk (v := { P.f k with sx := x, sy := y })
    have ow2 : Own (P.fp aS) (put S q (.lst [.int x, .int y])) (P.fp aS) (put (put S q (.lst [.int x, .int y])) (aS (.fact k)) (.lst (fcL { P.f k with sx := x, sy := y }))) := own_fact hk
    generalize put S q (.lst [.int x, .int y]) = S1 at *
    generalize put S1 (aS (.fact k)) (.lst (fcL { P.f k with sx := x, sy := y })) = S2 at *
    have ra2 := ow2.fr _ _ (fun z => b.nra (.inr (.inl z))) ra1
    rw [← hR]
    unfold ir_law_deed_v6_t5e_0e_0_1
    show wpSs G (.cons _ ir_law_deed_v6_t5e_0e_0_2) _ _ _
    generalize hR2 : ir_law_deed_v6_t5e_0e_0_2 = R2
    walk_at "wp"
    simp only [ra2, a2]
    rw [bin_mod]
    refine ⟨by decide, ?_⟩
    rw [cmp_eqI]
    have e2 := l2.fact (k := k) hk
    rw [show (opF P k { P.f k with sx := x, sy := y }).f k = { P.f k with sx := x, sy := y } from upI_same] at e2
    split
    · rw [e2]
      dsimp only
      rw [show atI (fcL { P.f k with sx := x, sy := y }) 7 = some (.int y) from rfl]
      dsimp only
      rw [bin_sub]
      have l3 := l2.setF (k := k) hk (v := { P.f k with sx := x, sy := y - 100000000000000000000000000000000000000000000000000000000000 })
      rw [opF_opF] at l3
      have ow3 : Own (P.fp aS) S2 (P.fp aS) (put S2 (aS (.fact k)) (.lst (fcL { P.f k with sx := x, sy := y - 100000000000000000000000000000000000000000000000000000000000 }))) := own_fact hk
      show (match ixN 9 7 with
        | some j => wpSs G R2 D _ (put S2 (aS (.fact k)) (.lst ((fcL { P.f k with sx := x, sy := y }).set j (.int (y - 100000000000000000000000000000000000000000000000000000000000)))))
        | none => False)
      rw [show ixN 9 7 = some 7 from rfl, ← hR2]
      exact deed_scroll2 hG438 ⟨⟨by omega, by omega⟩, ⟨by omega, by omega⟩⟩ (hk := hk) (kl := kl) (t2 := t2) hq1 j1 l3 (ow2.trans ow3)
    · rw [← hR2]
      exact deed_scroll2 hG438 ⟨⟨by omega, by omega⟩, ⟨by omega, by omega⟩⟩ (hk := hk) (kl := kl) (t2 := t2) hq1 j1 l2 ow2
  have fin2 : ∀ x : Int, (-(10 ^ 62) ≤ x ∧ x ≤ 10 ^ 62) → binW .fdiv (.int (rg rs 3)) (.int 11) fun z_1 => binW .mod z_1 (.int 9) fun z_2 => binW .sub z_2 (.int 3) fun z_3 => 2 ≤ sizeLine ∧ ∀ p, S p = none → slsW (.ref (aS (.fact k))) (.int 6) (.int 8) (.ref p) (put S p (.lst [.int x, z_3])) (wpSs G R D [some (.ref (aP .obj)), some (.ref (aS .obj)), some (.ref ra), some (.int far), a4, a5, some (.int k), some (.ref (aS (.fact k))), none]) := fun x hx62 => by
    rw [bin_fdiv]
    refine ⟨⟨by decide, by decide +kernel⟩, ?_⟩
    rw [bin_mod]
    refine ⟨by decide, ?_⟩
    rw [bin_sub]
    exact fin x _ hx62 ⟨by omega, by omega⟩
  generalize decide (rg rs 2 % 8 = 3) = c
  cases c
  · simp only [intW, Bool.false_eq_true, if_false, atI_0]
    exact fin2 _ ⟨by omega, by omega⟩
  · simp only [intW, if_true, atI_1]
    exact fin2 _ ⟨by omega, by omega⟩
theorem deed_turn (hG439 : G 439 = sp_Panes_turn G.cl) (b : DB G.cl S0 S aP aS s gd nw P d H F E ra rs n far k (fun S' => ∀ σ, D.nx σ S')) :
    wpSs G ir_law_deed_v6_t5e_0e_0e_0_0 D [some (.ref (aP .obj)), some (.ref (aS .obj)), some (.ref ra), some (.int far), a4, a5, some (.int k), some (.ref (aS (.fact k))), none] S := by
  have j := b.j
  have l := j.st
  have hk := b.k_
  have kl := b.kl
  have t1 := b.t1
  have t2 := b.t2
  have n5 := b.n5
  have sz : ∀ {n : Nat}, n ≤ 1000 → n ≤ sizeLine := fun h => by rw [sizeLine_val]; omega
  have a2 : atI (rs.map W.int) 2 = some (.int (rg rs 2)) := rg_ix b.dr (i := 2) (by omega)
  obtain ⟨egd, gs, hgl, hgd⟩ := j.gr.top
  unfold ir_law_deed_v6_t5e_0e_0e_0_0
  show wpSs G (.cons _ ir_law_deed_v6_t5e_0e_0e_0_1) _ _ _
  generalize hR : ir_law_deed_v6_t5e_0e_0e_0_1 = R
  walk_at "wp"
  simp only [b.ra_, a2, m_obj l, atI_3, len_ref, hgd]
  rw [bin_mod]
  refine ⟨by omega, ?_⟩
  obtain ⟨t, ht⟩ := Int.eq_ofNat_of_zero_le (Int.emod_nonneg (rg rs 2) (show (gs.length : Int) ≠ 0 by omega))
  have t9 := Int.emod_lt_of_pos (rg rs 2) (show (0 : Int) < gs.length by omega)
  rw [ht] at t9 ⊢
  rw [l.fact hk]
  have l2 := l.setF hk (v := { P.f k with sh := t })
  have ow2 : Own (P.fp aS) S (P.fp aS) (put S (aS (.fact k)) (.lst (fcL { P.f k with sh := t }))) := own_fact hk
  show wpSs G R D _ (put S (aS (.fact k)) (.lst (fcL { P.f k with sh := t })))
  have j2 := j.done l2 (j.wf.opF rfl) ow2
  generalize put S (aS (.fact k)) (.lst (fcL { P.f k with sh := t })) = S2 at *
  rw [← hR]
  unfold ir_law_deed_v6_t5e_0e_0e_0_1
  walk_at "wp"
  have hb : (PRow.turn k t).bad P d H.gr.length = none := (if_neg (fun z => z hk)).trans (if_neg (by omega))
  have e2 := l2.fact (k := k) hk
  rw [show (opF P k { P.f k with sh := t }).f k = { P.f k with sh := t } from upI_same] at e2
  rw [e2]
  simp only [hG439]
  refine ⟨j2.pn.ins (by decide +kernel), ?_⟩
  rw [show atI (fcL { P.f k with sh := (t : Int) }) 1 = some (.int t) from rfl]
  refine ⟨aP, s, nw, P, d, H.gr.length, k, t, rfl, j2.ctx (by omega) (by omega), POut.of (fun _ => fun aP' S3 l' e1 ow => ?_) fun m e => by rw [hb] at e; cases e⟩
  exact b.hq.rev (row := .turn k t) j hb rfl trivial l2 ow2 l' e1 ow _
theorem deed_hide (hG444 : G 444 = sp_Panes_hide G.cl) (b : DB G.cl S0 S aP aS s gd nw P d H F E ra rs n far k (fun S' => ∀ σ, D.nx σ S')) :
    wpSs G ir_law_deed_v6_t5e_0e_0e_0e_0e_0_0 D [some (.ref (aP .obj)), some (.ref (aS .obj)), some (.ref ra), some (.int far), a4, a5, some (.int k), some (.ref (aS (.fact k))), none] S := by
  have j := b.j
  have l := j.st
  have hk := b.k_
  have kl := b.kl
  have t1 := b.t1
  have t2 := b.t2
  have n5 := b.n5
  have sz : ∀ {n : Nat}, n ≤ 1000 → n ≤ sizeLine := fun h => by rw [sizeLine_val]; omega
  unfold ir_law_deed_v6_t5e_0e_0e_0e_0e_0_0
  show wpSs G (.cons _ ir_law_deed_v6_t5e_0e_0e_0e_0e_0_1) _ _ _
  generalize hR : ir_law_deed_v6_t5e_0e_0e_0e_0e_0_1 = R
  walk_at "wp"
  rw [l.fact hk]
  have l2 := l.setF hk (v := { P.f k with hid := true })
  have ow2 : Own (P.fp aS) S (P.fp aS) (put S (aS (.fact k)) (.lst (fcL { P.f k with hid := true }))) := own_fact hk
  show wpSs G R D _ (put S (aS (.fact k)) (.lst (fcL { P.f k with hid := true })))
  have j2 := j.done l2 (j.wf.opF rfl) ow2
  generalize put S (aS (.fact k)) (.lst (fcL { P.f k with hid := true })) = S2 at *
  rw [← hR]
  unfold ir_law_deed_v6_t5e_0e_0e_0e_0e_0_1
  walk_at "wp"
  have hb : (PRow.hide k).bad P d H.gr.length = none := if_neg (fun z => z hk)
  simp only [hG444]
  refine ⟨j2.pn.ins (by decide +kernel), aP, s, nw, P, d, H.gr.length, k, rfl, j2.ctx (by omega) (by omega), POut.of (fun _ => fun aP' S3 l' e1 ow => ?_) fun m e => by rw [hb] at e; cases e⟩
  exact b.hq.rev (row := .hide k) j hb rfl trivial l2 ow2 l' e1 ow _
theorem deed_show (hG445 : G 445 = sp_Panes_show G.cl) (b : DB G.cl S0 S aP aS s gd nw P d H F E ra rs n far k (fun S' => ∀ σ, D.nx σ S')) :
    wpSs G ir_law_deed_v6_t5e_0e_0e_0e_0e_0e_0_0 D [some (.ref (aP .obj)), some (.ref (aS .obj)), some (.ref ra), some (.int far), a4, a5, some (.int k), some (.ref (aS (.fact k))), none] S := by
  have j := b.j
  have l := j.st
  have hk := b.k_
  have kl := b.kl
  have t1 := b.t1
  have t2 := b.t2
  have n5 := b.n5
  have sz : ∀ {n : Nat}, n ≤ 1000 → n ≤ sizeLine := fun h => by rw [sizeLine_val]; omega
  unfold ir_law_deed_v6_t5e_0e_0e_0e_0e_0e_0_0
  show wpSs G (.cons _ ir_law_deed_v6_t5e_0e_0e_0e_0e_0e_0_1) _ _ _
  generalize hR : ir_law_deed_v6_t5e_0e_0e_0e_0e_0e_0_1 = R
  walk_at "wp"
  rw [l.fact hk]
  have l2 := l.setF hk (v := { P.f k with hid := false })
  have ow2 : Own (P.fp aS) S (P.fp aS) (put S (aS (.fact k)) (.lst (fcL { P.f k with hid := false }))) := own_fact hk
  show wpSs G R D _ (put S (aS (.fact k)) (.lst (fcL { P.f k with hid := false })))
  have j2 := j.done l2 (j.wf.opF rfl) ow2
  generalize put S (aS (.fact k)) (.lst (fcL { P.f k with hid := false })) = S2 at *
  rw [← hR]
  unfold ir_law_deed_v6_t5e_0e_0e_0e_0e_0e_0_1
  walk_at "wp"
  have hb : (PRow.show k).bad P d H.gr.length = none := if_neg (fun z => z hk)
  simp only [hG445]
  refine ⟨j2.pn.ins (by decide +kernel), aP, s, nw, P, d, H.gr.length, k, rfl, j2.ctx (by omega) (by omega), POut.of (fun _ => fun aP' S3 l' e1 ow => ?_) fun m e => by rw [hb] at e; cases e⟩
  exact b.hq.rev (row := .show k) j hb rfl trivial l2 ow2 l' e1 ow _
end
theorem pf_law_deed_v6 (G : Gs) (hG178 : G 178 = sp_law_opened G.cl) (hG180 : G 180 = sp_law_ordered_v2 G.cl) (hG181 : G 181 = sp_law_gone_v2 G.cl) (hG182 : G 182 = sp_law_met_v2 G.cl) (hG436 : G 436 = sp_Panes_move G.cl) (hG437 : G 437 = sp_Panes_resize G.cl) (hG438 : G 438 = sp_Panes_scroll G.cl) (hG439 : G 439 = sp_Panes_turn G.cl) (hG444 : G 444 = sp_Panes_hide G.cl) (hG445 : G 445 = sp_Panes_show G.cl) (ws : List W) (S : Sto) (Q : WQ) (X : XQ) (h : sp_law_deed_v6 G.cl ws S Q X) : ws.length = 4 ∧ wpF G 9 ir_law_deed_v6 ws S Q X := by
  obtain ⟨S0, aP, aS, s, gd, nw, P, d, H, F, E, ra, rs, n, far, rfl, j, hra, hr, hn, nra, hfar, t1, t2, t3, hl, hq⟩ := h
  refine ⟨rfl, ?_⟩
  have sz : ∀ {n : Nat}, n ≤ 1000 → n ≤ sizeLine := fun h => by rw [sizeLine_val]; omega
  have l := j.st
  have w := j.wf
  have a0 : atI (rs.map W.int) 0 = some (.int (rg rs 0)) := rg_ix hr (i := 0) (by omega)
  have a1 : atI (rs.map W.int) 1 = some (.int (rg rs 1)) := rg_ix hr (i := 1) (by omega)
  unfold wpF ir_law_deed_v6
  show wpSs G (.cons _ (.cons _ (.cons _ ir_law_deed_v6_t3))) _ _ _
  generalize hR : ir_law_deed_v6_t3 = R
  walk_at "wp"
  simp only [wt_srtd2]
  walk_at "wp"
  simp only [m_obj l, atI_0]
  refine srt_keys l.facts w.inc (by omega) ?_
  intro q hq0
  have sb : Sub S (put S q (.lst (P.kf.map W.int))) := Sub.put hq0
  have hq1 : put S q (.lst (P.kf.map W.int)) q = some (.lst (P.kf.map W.int)) := put_same
  have j1 := j.less sb
  have hra1 := sb _ _ hra
  have hqq := hq.sub sb
  generalize put S q (.lst (P.kf.map W.int)) = S1 at *
  have lk : ((P.kf.map W.int).length) = P.kf.length := List.length_map ..
  have nra1 : ¬ f4 aP aS P P F E ra := nra
  simp only [hra1, a0]
  rw [bin_mod]
  refine ⟨by decide, Nat.zero_le _, nofun, nofun, EncOk.eqsOk (d := 0) EncOk.int (by decide) P.kf, EncOk.eqsOk (d := 0) EncOk.int (by decide) [], ?_⟩
  rw [show W.eqvs (P.kf.map W.int) [] = decide (P.kf = []) from EncOk.eqvs (d := 0) EncOk.int P.kf []]
  have w0 : 0 ≤ rg rs 0 % 16 := Int.emod_nonneg _ (by decide)
  generalize rg rs 0 % 16 = wd at *
  simp only [hG178]
  have opn : P.kf.length < 12 → sp_law_opened G.cl [.ref (aP .obj), .ref (aS .obj), .ref ra, .int far] S1 (fun _ S1 => ∃ S2, Sub S2 S1 ∧ Q W.non S2) (fun C S' => ∃ S2, Sub S2 S' ∧ X C S2) := fun h12 =>
    ⟨S0, aP, aS, s, gd, nw, P, d, H, F, E, ra, rs, n, far, rfl, j1, hra1, hr, hn, nra, hfar, t1, t2, hl, (hqq.mono (by omega)).map fun S' h _ => ⟨_, Sub.refl _, h⟩⟩
  by_cases c0 : P.kf = []
  · rw [if_pos (by simp [c0])]
    exact opn (by rw [c0]; decide)
  rw [if_neg (by simp [c0]), cmp_lt]
  have rest : wpSs G R { nx := fun _ S' => ∃ S2, Sub S2 S' ∧ Q W.non S2, rt := fun w S' => ∃ S2, Sub S2 S' ∧ Q w S2, bk := fun _ _ => False, ct := fun _ _ => False, ex := fun _ C S' => ∃ S2, Sub S2 S' ∧ X C S2 } [some (.ref (aP .obj)), some (.ref (aS .obj)), some (.ref ra), some (.int far), some (.ref q), some (.int wd), none, none, none] S1 := by
    have k0 : 0 < P.kf.length := List.length_pos_iff.mpr c0
    rw [← hR]
    unfold ir_law_deed_v6_t3
    show wpSs G (.cons _ (.cons _ ir_law_deed_v6_t5)) _ _ _
    generalize hR5 : ir_law_deed_v6_t5 = R5
    walk_at "wp"
    simp only [hra1, a1, hq1, len_ref, List.length_map]
    rw [bin_mod]
    refine ⟨by omega, ?_⟩
    obtain ⟨v, hv⟩ := Int.eq_ofNat_of_zero_le (Int.emod_nonneg (rg rs 1) (show (P.kf.length : Int) ≠ 0 by omega))
    have v9 := Int.emod_lt_of_pos (rg rs 1) (show (0 : Int) < P.kf.length by omega)
    rw [hv] at v9 ⊢
    have hv' : v < P.kf.length := by omega
    have l1 := j1.st
    rw [idx_ref, hq1]
    dsimp only
    rw [show atI (P.kf.map W.int) (v : Int) = some (.int P.kf[v]) from atI_nat (by rw [List.getElem?_map, List.getElem?_eq_getElem hv']; rfl)]
    have hk := List.getElem_mem hv'
    generalize P.kf[v] = k at *
    dsimp only
    simp only [m_obj l1, atI_0, l1.idxF hk]
    have db : DB G.cl S0 S1 aP aS s gd nw P d H F E ra rs n far k (fun S' => ∀ σ : Envr, ∃ S2, Sub S2 S' ∧ Q W.non S2) := ⟨j1, hra1, hr, hn, nra, hfar, t1, t2, t3, hl, hk, (hqq.mono (by omega)).map fun S' h _ => ⟨_, Sub.refl _, h⟩⟩
    rw [← hR5]
    unfold ir_law_deed_v6_t5
    show wpSs G (.cons (.iff _ ir_law_deed_v6_t5_0 ir_law_deed_v6_t5e_0) .nil) _ _ _
    generalize h1 : ir_law_deed_v6_t5_0 = A1
    generalize h2 : ir_law_deed_v6_t5e_0 = B1
    walk_at "wp"
    split
    · rw [← h1]
      exact deed_move hG436 db
    rw [← h2]
    unfold ir_law_deed_v6_t5e_0
    clear h1 h2 A1 B1
    show wpSs G (.cons (.iff _ ir_law_deed_v6_t5e_0_0 ir_law_deed_v6_t5e_0e_0) .nil) _ _ _
    generalize h1 : ir_law_deed_v6_t5e_0_0 = A1
    generalize h2 : ir_law_deed_v6_t5e_0e_0 = B1
    walk_at "wp"
    split
    · rw [← h1]
      exact deed_resize hG437 db
    rw [← h2]
    unfold ir_law_deed_v6_t5e_0e_0
    clear h1 h2 A1 B1
    show wpSs G (.cons (.iff _ ir_law_deed_v6_t5e_0e_0_0 ir_law_deed_v6_t5e_0e_0e_0) .nil) _ _ _
    generalize h1 : ir_law_deed_v6_t5e_0e_0_0 = A1
    generalize h2 : ir_law_deed_v6_t5e_0e_0e_0 = B1
    walk_at "wp"
    split
    · rw [← h1]
      exact deed_scroll hG438 db
    rw [← h2]
    unfold ir_law_deed_v6_t5e_0e_0e_0
    clear h1 h2 A1 B1
    show wpSs G (.cons (.iff _ ir_law_deed_v6_t5e_0e_0e_0_0 ir_law_deed_v6_t5e_0e_0e_0e_0) .nil) _ _ _
    generalize h1 : ir_law_deed_v6_t5e_0e_0e_0_0 = A1
    generalize h2 : ir_law_deed_v6_t5e_0e_0e_0e_0 = B1
    walk_at "wp"
    split
    · rw [← h1]
      exact deed_turn hG439 db
    rw [← h2]
    unfold ir_law_deed_v6_t5e_0e_0e_0e_0
    clear h1 h2 A1 B1
    show wpSs G (.cons (.iff _ _ ir_law_deed_v6_t5e_0e_0e_0e_0e_0) .nil) _ _ _
    generalize h2 : ir_law_deed_v6_t5e_0e_0e_0e_0e_0 = B1
    walk_at "wp"
    split
    · simp only [hG180]
      exact ⟨S0, aP, aS, s, gd, nw, P, d, H, F, E, ra, rs, n, k, rfl, j1, hk, hra1, hr, hn, nra, t1, t2, hl, db.hq.map fun S' h => h []⟩
    rw [← h2]
    unfold ir_law_deed_v6_t5e_0e_0e_0e_0e_0
    clear h2 B1
    show wpSs G (.cons (.iff _ ir_law_deed_v6_t5e_0e_0e_0e_0e_0_0 ir_law_deed_v6_t5e_0e_0e_0e_0e_0e_0) .nil) _ _ _
    generalize h1 : ir_law_deed_v6_t5e_0e_0e_0e_0e_0_0 = A1
    generalize h2 : ir_law_deed_v6_t5e_0e_0e_0e_0e_0e_0 = B1
    walk_at "wp"
    split
    · rw [← h1]
      exact deed_hide hG444 db
    rw [← h2]
    unfold ir_law_deed_v6_t5e_0e_0e_0e_0e_0e_0
    clear h1 h2 A1 B1
    show wpSs G (.cons (.iff _ ir_law_deed_v6_t5e_0e_0e_0e_0e_0e_0_0 ir_law_deed_v6_t5e_0e_0e_0e_0e_0e_0e_0) .nil) _ _ _
    generalize h1 : ir_law_deed_v6_t5e_0e_0e_0e_0e_0e_0_0 = A1
    generalize h2 : ir_law_deed_v6_t5e_0e_0e_0e_0e_0e_0e_0 = B1
    walk_at "wp"
    split
    · rw [← h1]
      exact deed_show hG445 db
    rw [← h2]
    unfold ir_law_deed_v6_t5e_0e_0e_0e_0e_0e_0e_0
    clear h1 h2 A1 B1
    walk_at "wp"
    simp only [hG181, hG182]
    split
    · exact ⟨S0, aP, aS, s, gd, nw, P, d, H, F, E, k, rfl, j1, hk, t2, hl, db.hq.map fun S' h => h []⟩
    · exact ⟨S0, aP, aS, s, gd, nw, P, d, H, F, E, ra, rs, n, rfl, j1, hra1, hr, hn, nra, t1, t2, t3, hl, db.hq.map fun S' h => h []⟩
  split
  · rw [List.length_map]
    split
    · rename_i h12
      exact opn (by omega)
    · exact rest
  · exact rest
local macro_rules | `(tactic| walk_at "wp") => `(tactic| try simp only [wss_nil, wss_cons, ws_set, ws_par, ws_asg, ws_aug, ws_exp, ws_ret, ws_retN, ws_pas, ws_brk, ws_cnt, ws_iff, ws_whl, ws_for, wpE, wpEs, wpO, wt_dsp, wt_cat, wt_slc, wt_rev, wt_lst, wt_srt, wt_sset, wt_comp, wt_compif, wpL, wpG, wpGs, wpI, getv_0, getv_s, setv_0, setv_s, bin_addI, bin_sub, bin_mul, bin_fdiv, bin_mod, cmp_lt, cmp_le, cmp_gt, cmp_ge, cmp_eqI, cmp_neI, asBl_bl, if_ff, if_tt, wipeW_nil, wipeW_cons, List.length_cons, List.length_nil, IGs.len, replicate_s, replicate_0, List.map_cons, List.map_nil, List.cons_append, List.nil_append, Nat.reduceSub, Nat.reduceAdd, true_and, put_same, isLst, idx_tup, idx_rol, idx_ref, set_refI, atI_0, atI_1, atI_2, atI_3, ixN_0, ixN_1, ixN_2, ixN_3, put_put, decide_eq_true_eq, len_tup, len_rol, len_ref, isa_tupT, isa_intI, isa_intB, isa_blB, isa_blI, isa_refL, isNon_int, isNon_tup, isNon_non, nc0, nc1, nc2, nc3, nc4, bff, btf, btt, bft, eq_self, decide_true, if_true, if_false, Bool.not_true, Bool.not_false, cmp_eqB, cmp_neB])
local macro_rules | `(tactic| walk_at "wp") => `(tactic| try simp only [wss_nil, wss_cons, ws_set, ws_par, ws_asg, ws_aug, ws_exp, ws_ret, ws_retN, ws_pas, ws_brk, ws_cnt, ws_iff, ws_whl, ws_for, wpE, wpEs, wpO, wt_dsp, wt_cat, wt_slc, wt_rev, wt_lst, wt_srt, wt_sset, wt_comp, wt_compif, wpL, wpG, wpGs, wpI, getv_0, getv_s, setv_0, setv_s, bin_addI, bin_sub, bin_mul, bin_fdiv, bin_mod, cmp_lt, cmp_le, cmp_gt, cmp_ge, cmp_eqI, cmp_neI, asBl_bl, if_ff, if_tt, wipeW_nil, wipeW_cons, List.length_cons, List.length_nil, IGs.len, replicate_s, replicate_0, List.map_cons, List.map_nil, List.cons_append, List.nil_append, Nat.reduceSub, Nat.reduceAdd, true_and, put_same, isLst, idx_tup, idx_rol, idx_ref, set_refI, atI_0, atI_1, atI_2, atI_3, ixN_0, ixN_1, ixN_2, ixN_3, put_put, decide_eq_true_eq, len_tup, len_rol, len_ref, isa_tupT, isa_intI, isa_intB, isa_blB, isa_blI, isa_refL, isNon_int, isNon_tup, isNon_non, nc0, nc1, nc2, nc3, nc4, bff, btf, btt, bft, eq_self, decide_true, if_true, if_false, Bool.not_true, Bool.not_false])
theorem hd_at (ns : List Int) : atI (ns.map W.int ++ [.int 0]) 0 = some (.int (ns.getD 0 0)) := by
  cases ns with
  | nil => exact atI_0
  | cons z ns => rw [List.map_cons, List.cons_append, atI_0]; rfl
theorem far_at (r : Int) : ∃ far, atI [W.int 0, .int 0, .int 10000000000000000000000000000000000000000000000000000000000, .int (-10000000000000000000000000000000000000000000000000000000000)] (r % 4) = some (.int far) ∧ FarOk far := by
  have h0 : 0 ≤ r % 4 := Int.emod_nonneg _ (by decide)
  have h1 : r % 4 < 4 := Int.emod_lt_of_pos _ (by decide)
  rcases (show r % 4 = 0 ∨ r % 4 = 1 ∨ r % 4 = 2 ∨ r % 4 = 3 by omega) with e | e | e | e <;> rw [e]
  · exact ⟨_, atI_0, by decide, by decide⟩
  · exact ⟨_, atI_1, by decide, by decide⟩
  · exact ⟨_, atI_2, by decide, by decide⟩
  · exact ⟨_, atI_3, by decide, by decide⟩
structure BoxB (L : Nat) (b : Bx) : Prop where
  x0 : -(10 ^ 61) - 10 ^ 21 * (L : Int) < b.1
  x1 : b.1 < 10 ^ 61 + 10 ^ 21 * (L : Int)
  y0 : -(10 ^ 61) - 10 ^ 21 * (L : Int) < b.2.1
  y1 : b.2.1 < 10 ^ 61 + 10 ^ 21 * (L : Int)
  w0 : -1000 < b.2.2.1
  w1 : b.2.2.1 ≤ 10 ^ 20
  h0 : -1000 < b.2.2.2
  h1 : b.2.2.2 ≤ 10 ^ 20
theorem BoxB.mono {L M : Nat} {b : Bx} (h : BoxB L b) (k : L ≤ M) : BoxB M b := ⟨by have := h.x0; omega, by have := h.x1; omega, by have := h.y0; omega, by have := h.y1; omega, h.w0, h.w1, h.h0, h.h1⟩
structure BxF (S : Sto) (p q : Addr) (n : Nat) (bx : List Bx) (S' : Sto) : Prop where
  qp : q ≠ p
  q0 : S q = none
  x : SubX S p S'
  q1 : S' q = some (.lst (bx.map bxW))
  t : ∃ o, S' p = some o ∧ Tap n o
  b : ∀ b ∈ bx, BoxB bx.length b
theorem BxF.next {S : Sto} {p q : Addr} {n : Nat} {bx : List Bx} {S' : Sto} (h : BxF S p q n bx S') {o' : MO} (ht : Tap (n + 1) o') : BxF S p q (n + 1) bx (put S' p o') :=
  ⟨h.qp, h.q0, h.x.tap, by rw [put_ne h.qp]; exact h.q1, ⟨o', put_same, ht⟩, h.b⟩
theorem BxF.mono {S : Sto} {p q : Addr} {n m : Nat} {bx : List Bx} {S' : Sto} (h : BxF S p q n bx S') (hm : n ≤ m) : BxF S p q m bx S' :=
  ⟨h.qp, h.q0, h.x, h.q1, (let ⟨o, a, b⟩ := h.t; ⟨o, a, b.mono hm⟩), h.b⟩
theorem IsReg.nil {r : Rg} (h : IsReg [] r) : r = [] := h.v.unique RgV.nil fun x y => by rw [h.cells]; exact ⟨fun ⟨_, z, _⟩ => (by cases z), fun z => (inR_nil z).elim⟩
inductive Wd where
  | ei | bo | wo
def Wd.s : Wd → Str
  | .ei => "either"
  | .bo => "both"
  | .wo => "without"
def Wd.f : Wd → Bool → Bool → Bool
  | .ei, a, b => a || b
  | .bo, a, b => a && b
  | .wo, a, b => a && !b
def Wd.p : Wd → Prop → Prop → Prop
  | .ei, a, b => a ∨ b
  | .bo, a, b => a ∧ b
  | .wo, a, b => a ∧ ¬ b
theorem Wd.p_congr (w : Wd) {A B A' B' : Prop} (ha : A ↔ A') (hb : B ↔ B') : w.p A B ↔ w.p A' B' := by rw [propext ha, propext hb]
theorem Wd.ok (w : Wd) : (W.str w.s).eqOk := by cases w <;> exact ⟨rfl, by decide +kernel⟩
def Ahd (l : List Rw) (k : Nat) (z : Int) : Prop := k ≤ l.length ∧ ∀ (j : Nat) t, j < k → l[j]? = some t → t.2.1 ≤ z
theorem Ahd.behind {l : List Rw} {i k : Nat} {z : Int} (h : Ahd l i z) (hb : Behind l i z k) : Behind l 0 z k :=
  ⟨Nat.zero_le _, hb.hi, fun j t _ hj e => if q : j < i then h.2 j t q e else hb.ahead j t (by omega) hj e, hb.at'⟩
theorem rwR_edges (s : Rg) (k : Int) : k ∈ edges (rwR s) ↔ ∃ p ∈ s, k = p.1 ∨ k = p.2.1 := by
  unfold edges rwR
  rw [List.mem_flatMap]
  constructor
  · rintro ⟨t, ht, hk⟩
    obtain ⟨p, hp, rfl⟩ := List.mem_map.mp ht
    exact ⟨p, hp, by simpa using hk⟩
  · rintro ⟨p, hp, hk⟩
    exact ⟨_, List.mem_map.mpr ⟨p, hp, rfl⟩, by simpa using hk⟩
structure IsKept (w : Wd) (a b : Rg) (r : Rg) : Prop where
  v : RgV r
  cells : ∀ x y, inR r x y ↔ w.p (inR a x y) (inR b x y)
  len : r.length ≤ 2 * a.length + 2 * b.length
  lens : ∀ n, (∀ c ∈ a, c.2.2.length ≤ n) → (∀ c ∈ b, c.2.2.length ≤ n) → ∀ c ∈ r, c.2.2.length ≤ 4 * n
theorem Chn.sub {α : Type} {R : α → α → Prop} {l : List α} (h : Chn R l) (i j : Nat) : Chn R ((l.drop i).take j) := fun k a b h1 h2 => by
  rw [List.getElem?_take] at h1 h2
  split at h1
  · split at h2
    · rw [List.getElem?_drop] at h1 h2
      exact h (i + k) a b h1 (by rw [Nat.add_assoc]; exact h2)
    · cases h2
  · cases h1
theorem RgOk.sub {r : Rg} (h : RgOk r) (i j : Nat) : RgOk ((r.drop i).take j) := ⟨by
  have := h.len
  rw [List.length_take, List.length_drop]; omega, fun b hb => h.bd b (List.mem_of_mem_drop (List.mem_of_mem_take hb)), h.chn.sub i j⟩
theorem bin_rg {a b : Rg} {Q : W → Prop} : binW .add (rgW a) (rgW b) Q = (a.length + b.length ≤ sizeLine ∧ Q (rgW (a ++ b))) := by
  unfold rgW; rw [bin_addT, List.length_map, List.length_map, List.map_append]
structure Small (r : Rg) : Prop where
  v : RgV r
  len : r.length ≤ 500
  lens : ∀ b ∈ r, b.2.2.length ≤ 500
theorem RgOk.small {r : Rg} (h : RgOk r) : Small r := ⟨h.v, by have := h.len; omega, fun b hb => by have := (h.bd b hb).2.len; omega⟩
theorem Small.row {r : Rg} (h : Small r) {s : Sps} (hs : s = [] ∨ ∃ b ∈ r, b.2.2 = s) : s.length ≤ 500 := by
  rcases hs with e | ⟨b, hb, e⟩
  · rw [e]; simp
  · rw [← e]; exact h.lens b hb
theorem IsKept.small {w : Wd} {a b r : Rg} (h : IsKept w a b r) (ha : RgOk a) (hb : RgOk b) : Small r := ⟨h.v, by have := h.len; have := ha.len; have := hb.len; omega, fun c hc => by
  have := h.lens 40 (fun c hc => (ha.bd c hc).2.len) (fun c hc => (hb.bd c hc).2.len) c hc
  omega⟩
def cnt (lo : Int) (n : Nat) (f : Int → Bool) : Nat := (List.range n).countP fun (i : Nat) => f (lo + i)
local macro_rules | `(tactic| walk_at "wp") => `(tactic| try simp only [wss_nil, wss_cons, ws_set, ws_par, ws_asg, ws_aug, ws_exp, ws_ret, ws_retN, ws_pas, ws_brk, ws_cnt, ws_iff, ws_whl, ws_for, wpE, wpEs, wpO, wt_dsp, wt_cat, wt_slc, wt_rev, wt_lst, wt_srt, wt_sset, wt_comp, wt_compif, wpL, wpG, wpGs, wpI, getv_0, getv_s, setv_0, setv_s, bin_addI, bin_sub, bin_mul, bin_fdiv, bin_mod, cmp_lt, cmp_le, cmp_gt, cmp_ge, cmp_eqI, cmp_neI, asBl_bl, if_ff, if_tt, wipeW_nil, wipeW_cons, List.length_cons, List.length_nil, IGs.len, replicate_s, replicate_0, List.map_cons, List.map_nil, List.cons_append, List.nil_append, Nat.reduceSub, Nat.reduceAdd, true_and, put_same, isLst, idx_tup, idx_rol, idx_ref, set_refI, atI_0, atI_1, atI_2, atI_3, ixN_0, ixN_1, ixN_2, ixN_3, put_put, decide_eq_true_eq, len_tup, len_rol, len_ref, isa_tupT, isa_intI, isa_intB, isa_blB, isa_blI, isa_refL, isNon_int, isNon_tup, isNon_non, nc0, nc1, nc2, nc3, nc4, bff, btf, btt, bft, eq_self, decide_true, if_true, if_false, Bool.not_true, Bool.not_false, cmp_eqB, cmp_neB])
structure Grid (X Y : List Int) (r : Rg) : Prop where
  y : ∀ b ∈ r, b.1 ∈ Y ∧ b.2.1 ∈ Y
  x : ∀ b ∈ r, ∀ p ∈ b.2.2, p.1 ∈ X ∧ p.2 ∈ X
def RowC (Y : List Int) (P : Int → Int → Prop) : Prop := ∀ y, y ∉ Y → ∀ x, P x (y - 1) ↔ P x y
def ColC (X : List Int) (P : Int → Int → Prop) : Prop := ∀ x, x ∉ X → ∀ y, P (x - 1) y ↔ P x y
theorem RgV.row_eq : ∀ {r : Rg}, RgV r → ∀ {b c : Int × Int × Sps} {y : Int}, b ∈ r → c ∈ r → b.1 ≤ y → y < b.2.1 → c.1 ≤ y → y < c.2.1 → b = c
  | [], _, b, c, y, hb, _, _, _, _, _ => by cases hb
  | a :: r, h, b, c, y, hb, hc, h1, h2, h3, h4 => by
    have pw := (List.pairwise_cons.mp h.pw).1
    rcases List.mem_cons.mp hb with e | e
    · rcases List.mem_cons.mp hc with f | f
      · rw [e, f]
      · have := pw c f
        subst e; omega
    · rcases List.mem_cons.mp hc with f | f
      · have := pw b e
        subst f; omega
      · exact RgV.row_eq h.tail e f h1 h2 h3 h4
theorem RgV.row_iff {r : Rg} (h : RgV r) {b : Int × Int × Sps} {y : Int} (hb : b ∈ r) (h1 : b.1 ≤ y) (h2 : y < b.2.1) (x : Int) : inR r x y ↔ inS b.2.2 x := by
  constructor
  · rintro ⟨c, hc, c1, c2, c3⟩
    rw [h.row_eq hb hc h1 h2 c1 c2]; exact c3
  · intro k; exact ⟨b, hb, h1, h2, k⟩
theorem PwS.col_eq {s : Sps} (h : PwS s) {p q : Int × Int} {x z : Int} (hp : p ∈ s) (hq : q ∈ s) (h1 : p.1 ≤ x) (h2 : x ≤ p.2) (h3 : q.1 ≤ x) (h4 : x ≤ q.2) : p = q := by
  obtain ⟨i, hi, e1⟩ := List.getElem_of_mem hp
  obtain ⟨j, hj, e2⟩ := List.getElem_of_mem hq
  have pw := List.pairwise_iff_getElem.mp h.2
  by_cases e : i = j
  · subst e; rw [← e1, ← e2]
  · by_cases l : i < j
    · have := pw i j hi hj l
      rw [e1, e2] at this; omega
    · have := pw j i hj hi (by omega)
      rw [e1, e2] at this; omega
theorem Grid.row {X Y : List Int} {r : Rg} (g : Grid X Y r) : RowC Y (inR r) := fun y hy x => by
  have k : ∀ b ∈ r, b.1 ≠ y ∧ b.2.1 ≠ y := fun b hb => ⟨fun e => hy (e ▸ (g.y b hb).1), fun e => hy (e ▸ (g.y b hb).2)⟩
  constructor
  · rintro ⟨b, hb, h1, h2, h3⟩
    have := k b hb
    exact ⟨b, hb, by omega, by omega, h3⟩
  · rintro ⟨b, hb, h1, h2, h3⟩
    have := k b hb
    exact ⟨b, hb, by omega, by omega, h3⟩
theorem Grid.col {X Y : List Int} {r : Rg} (g : Grid X Y r) : ColC X (inR r) := fun x hx y => by
  have k : ∀ b ∈ r, ∀ p ∈ b.2.2, p.1 ≠ x ∧ p.2 ≠ x := fun b hb p hp => ⟨fun e => hx (e ▸ (g.x b hb p hp).1), fun e => hx (e ▸ (g.x b hb p hp).2)⟩
  constructor
  · rintro ⟨b, hb, h1, h2, p, hp, h3, h4⟩
    have := k b hb p hp
    exact ⟨b, hb, h1, h2, p, hp, by omega, by omega⟩
  · rintro ⟨b, hb, h1, h2, p, hp, h3, h4⟩
    have := k b hb p hp
    exact ⟨b, hb, h1, h2, p, hp, by omega, by omega⟩
theorem RgV.grid {X Y : List Int} {r : Rg} (v : RgV r) (hr : RowC Y (inR r)) (hc : ColC X (inR r)) : Grid X Y r := by
  have start : ∀ b ∈ r, b.1 ∈ Y := fun b hb => by
    by_cases hy : b.1 ∈ Y
    · exact hy
    · exfalso
      obtain ⟨b1, bv⟩ := v.bd b hb
      obtain ⟨x0, hx0⟩ := bv.some
      obtain ⟨c, hcm, c1, c2, c3⟩ := (hr b.1 hy x0).mpr ((v.row_iff hb (by omega) b1 x0).mpr hx0)
      obtain ⟨d, s, e⟩ := List.append_of_mem hb
      have pw := v.pw
      rw [e] at pw
      obtain ⟨pd, ps, pds⟩ := List.pairwise_append.mp pw
      have hcd : c ∈ d := by
        rw [e] at hcm
        rcases List.mem_append.mp hcm with k | k
        · exact k
        · rcases List.mem_cons.mp k with k | k
          · subst k; omega
          · have := (List.pairwise_cons.mp ps).1 c k; omega
      rcases List.eq_nil_or_concat d with k | ⟨d', f, k⟩
      · subst k; cases hcd
      · rw [List.concat_eq_append] at k
        have hfb := pds f (by rw [k]; simp) b (by simp)
        have hcf : c = f := by
          rw [k] at hcd pd
          rcases List.mem_append.mp hcd with q | q
          · have := (List.pairwise_append.mp pd).2.2 c q f (by simp); omega
          · simpa using q
        subst hcf
        have hlast : d.getLast? = some c := by rw [k]; simp
        have ch : c.2.1 < b.1 ∨ c.2.1 = b.1 ∧ c.2.2 ≠ b.2.2 := (e ▸ v.chn : Chn _ (d ++ b :: s)).last hlast
        have cm : c ∈ r := hcm
        have cv := (v.bd c cm).2
        rcases ch with q | ⟨q1, q2⟩
        · omega
        · refine q2 (PwS.unique cv.pws bv.pws fun x => ?_)
          rw [← v.row_iff cm c1 c2 x, ← v.row_iff hb (Int.le_refl _) b1 x]
          exact hr b.1 hy x
  refine ⟨fun b hb => ⟨start b hb, ?_⟩, fun b hb p hp => ?_⟩
  · by_cases hy : b.2.1 ∈ Y
    · exact hy
    · exfalso
      obtain ⟨b1, bv⟩ := v.bd b hb
      obtain ⟨x0, hx0⟩ := bv.some
      obtain ⟨c, hcm, c1, c2, c3⟩ := (hr b.2.1 hy x0).mp ((v.row_iff hb (by omega) (by omega) x0).mpr hx0)
      have : c.1 = b.2.1 := by
        by_cases k : c.1 = b.2.1
        · exact k
        · have e := v.row_eq hb hcm (y := b.2.1 - 1) (by omega) (by omega) (by omega) (by omega)
          rw [← e] at c2; omega
      exact hy (this ▸ start c hcm)
  · obtain ⟨b1, bv⟩ := v.bd b hb
    have hpp := bv.pos p hp
    refine ⟨?_, ?_⟩
    · by_cases hx : p.1 ∈ X
      · exact hx
      · exfalso
        obtain ⟨q, hq, q1, q2⟩ := (v.row_iff hb (Int.le_refl _) b1 _).mp ((hc p.1 hx b.1).mpr ((v.row_iff hb (Int.le_refl _) b1 _).mpr ⟨p, hp, by omega, hpp⟩))
        have e := bv.pws.col_eq (x := p.1) (z := 0) hp hq (by omega) (by omega) (by omega) (by omega)
        rw [← e] at q1; omega
    · by_cases hx : p.2 ∈ X
      · exact hx
      · exfalso
        obtain ⟨q, hq, q1, q2⟩ := (v.row_iff hb (Int.le_refl _) b1 _).mp ((hc p.2 hx b.1).mp ((v.row_iff hb (Int.le_refl _) b1 _).mpr ⟨p, hp, by omega, by omega⟩))
        have e := bv.pws.col_eq (x := p.2) (z := 0) hp hq (by omega) (by omega) (by omega) (by omega)
        rw [← e] at q2; omega
theorem RowC.p {Y Y' : List Int} {P Q R : Int → Int → Prop} (w : Wd) (h : RowC Y P) (k : RowC Y' Q) (e : ∀ x y, R x y ↔ w.p (P x y) (Q x y)) : RowC (Y ++ Y') R := fun y hy x => by
  rw [List.mem_append, not_or] at hy
  rw [e, e]
  exact Wd.p_congr w (h y hy.1 x) (k y hy.2 x)
theorem ColC.p {Y Y' : List Int} {P Q R : Int → Int → Prop} (w : Wd) (h : ColC Y P) (k : ColC Y' Q) (e : ∀ x y, R x y ↔ w.p (P x y) (Q x y)) : ColC (Y ++ Y') R := fun y hy x => by
  rw [List.mem_append, not_or] at hy
  rw [e, e]
  exact Wd.p_congr w (h y hy.1 x) (k y hy.2 x)
theorem IsKept.grid {w : Wd} {a b r : Rg} {X Y X' Y' : List Int} (h : IsKept w a b r) (ga : Grid X Y a) (gb : Grid X' Y' b) : Grid (X ++ X') (Y ++ Y') r :=
  h.v.grid (ga.row.p w gb.row h.cells) (ga.col.p w gb.col h.cells)
theorem Grid.nil : Grid [] [] [] := ⟨(fun b hb => by cases hb), (fun b hb => by cases hb)⟩
theorem Grid.mono {X Y X' Y' : List Int} {r : Rg} (g : Grid X Y r) (h : ∀ k ∈ X, k ∈ X') (h' : ∀ k ∈ Y, k ∈ Y') : Grid X' Y' r :=
  ⟨fun b hb => ⟨h' _ (g.y b hb).1, h' _ (g.y b hb).2⟩, fun b hb p hp => ⟨h _ (g.x b hb p hp).1, h _ (g.x b hb p hp).2⟩⟩
theorem Grid.len {X Y : List Int} {r : Rg} (g : Grid X Y r) (v : RgV r) : r.length ≤ Y.length := by
  have h : (r.map fun b => b.1).Pairwise (· < ·) := by
    rw [List.pairwise_map]
    refine List.Pairwise.imp_of_mem (fun {a b} ha hb h => ?_) v.pw
    have := (v.bd a ha).1
    omega
  have := nodup_len h fun x hx => by
    obtain ⟨b, hb, rfl⟩ := List.mem_map.mp hx
    exact (g.y b hb).1
  rw [List.length_map] at this
  exact this
theorem Grid.lens {X Y : List Int} {r : Rg} (g : Grid X Y r) (v : RgV r) {b : Int × Int × Sps} (hb : b ∈ r) : b.2.2.length ≤ X.length := by
  have bv := (v.bd b hb).2
  have h : (b.2.2.map fun p => p.1).Pairwise (· < ·) := by
    rw [List.pairwise_map]
    refine List.Pairwise.imp_of_mem (fun {p q} hp hq h => ?_) bv.pw
    have := bv.pos p hp
    omega
  have := nodup_len h fun x hx => by
    obtain ⟨p, hp, rfl⟩ := List.mem_map.mp hx
    exact (g.x b hb p hp).1
  rw [List.length_map] at this
  exact this
def Few (n : Nat) (r : Rg) : Prop := RgV r ∧ ∃ X Y, Grid X Y r ∧ X.length ≤ n ∧ Y.length ≤ n
theorem Few.len {n : Nat} {r : Rg} (h : Few n r) : r.length ≤ n := by
  obtain ⟨v, X, Y, g, h1, h2⟩ := h
  exact Nat.le_trans (g.len v) h2
theorem Few.lens {n : Nat} {r : Rg} (h : Few n r) {b : Int × Int × Sps} (hb : b ∈ r) : b.2.2.length ≤ n := by
  obtain ⟨v, X, Y, g, h1, h2⟩ := h
  exact Nat.le_trans (g.lens v hb) h1
theorem Few.nil : Few 0 [] := ⟨RgV.nil, [], [], Grid.nil, Nat.le_refl _, Nat.le_refl _⟩
theorem Few.mono {n m : Nat} {r : Rg} (h : Few n r) (k : n ≤ m) : Few m r := by
  obtain ⟨v, X, Y, g, h1, h2⟩ := h
  exact ⟨v, X, Y, g, by omega, by omega⟩
theorem Few.kept {w : Wd} {n m : Nat} {a b r : Rg} (h : IsKept w a b r) (ha : Few n a) (hb : Few m b) : Few (n + m) r := by
  obtain ⟨va, X, Y, g, h1, h2⟩ := ha
  obtain ⟨vb, X', Y', g', h1', h2'⟩ := hb
  exact ⟨h.v, _, _, h.grid g g', by rw [List.length_append]; omega, by rw [List.length_append]; omega⟩
theorem RgBig.cell {c : Int} {r : Rg} (h : RgBig c r) {x y : Int} (hx : inR r x y) : -c < x ∧ x + 1 < c ∧ -c < y ∧ y + 1 < c := by
  obtain ⟨b, hb, h1, h2, p, hp, h3, h4⟩ := hx
  obtain ⟨g1, g2, g3⟩ := h b hb
  have := g3 p hp
  omega
local macro_rules | `(tactic| walk_at "wp") => `(tactic| try simp only [wss_nil, wss_cons, ws_set, ws_par, ws_asg, ws_aug, ws_exp, ws_ret, ws_retN, ws_pas, ws_brk, ws_cnt, ws_iff, ws_whl, ws_for, wpE, wpEs, wpO, wt_dsp, wt_cat, wt_slc, wt_rev, wt_lst, wt_srt, wt_sset, wt_comp, wt_compif, wpL, wpG, wpGs, wpI, getv_0, getv_s, setv_0, setv_s, bin_addI, bin_sub, bin_mul, bin_fdiv, bin_mod, cmp_lt, cmp_le, cmp_gt, cmp_ge, cmp_eqI, cmp_neI, asBl_bl, if_ff, if_tt, wipeW_nil, wipeW_cons, List.length_cons, List.length_nil, IGs.len, replicate_s, replicate_0, List.map_cons, List.map_nil, List.cons_append, List.nil_append, Nat.reduceSub, Nat.reduceAdd, true_and, put_same, isLst, idx_tup, idx_rol, idx_ref, set_refI, atI_0, atI_1, atI_2, atI_3, ixN_0, ixN_1, ixN_2, ixN_3, put_put, decide_eq_true_eq, len_tup, len_rol, len_ref, isa_tupT, isa_intI, isa_intB, isa_blB, isa_blI, isa_refL, isNon_int, isNon_tup, isNon_non, nc0, nc1, nc2, nc3, nc4, bff, btf, btt, bft, eq_self, decide_true, if_true, if_false, Bool.not_true, Bool.not_false, cmp_eqB, cmp_neB, bin_rg])
def Lies (a b : Rg) : Prop := ∀ x y, inR a x y → inR b x y
theorem Lies.rows {a b : Rg} (ms : List Int) (he : ∀ k ∈ edges (rwR (a ++ b)), k ∈ ms) (h : ∀ y ∈ ms, ∀ x, inR a x y → inR b x y) : Lies a b := fun x y hx => by
  obtain ⟨c, hc, c1, c2, c3⟩ := hx
  have up : ∀ n : Nat, ∀ z, z ∈ ms → z ≤ y → (y - z).toNat ≤ n → ∃ m ∈ ms, m ≤ y ∧ ∀ k ∈ ms, k ≤ y → k ≤ m := fun n => by
    induction n with
    | zero => exact fun z hz hzy hn => ⟨z, hz, hzy, fun k _ hk => by omega⟩
    | succ n ih =>
      intro z hz hzy hn
      by_cases q : ∃ k ∈ ms, k ≤ y ∧ z < k
      · obtain ⟨k, hk, hky, hzk⟩ := q
        exact ih k hk hky (by omega)
      · exact ⟨z, hz, hzy, fun k hk hky => by
          by_cases w : k ≤ z
          · exact w
          · exact (q ⟨k, hk, hky, by omega⟩).elim⟩
  have edge : ∀ d ∈ a ++ b, d.1 ∈ ms ∧ d.2.1 ∈ ms := fun d hd => ⟨he _ ((rwR_edges _ _).mpr ⟨d, hd, .inl rfl⟩), he _ ((rwR_edges _ _).mpr ⟨d, hd, .inr rfl⟩)⟩
  obtain ⟨m, hm, hmy, hmax⟩ := up (y - c.1).toNat c.1 (edge c (by simp [hc])).1 c1 (Nat.le_refl _)
  have cm := hmax c.1 (edge c (by simp [hc])).1 c1
  obtain ⟨d, hd, d1, d2, d3⟩ := h m hm x ⟨c, hc, cm, by omega, c3⟩
  refine ⟨d, hd, by omega, ?_, d3⟩
  by_cases w : y < d.2.1
  · exact w
  · have := hmax d.2.1 (edge d (by simp [hd])).2 (by omega)
    omega
theorem SubX.refl (S : Sto) (p : Addr) : SubX S p S := fun _ _ _ e => e
local macro_rules | `(tactic| walk_at "wp") => `(tactic| try simp only [wss_nil, wss_cons, ws_set, ws_par, ws_asg, ws_aug, ws_exp, ws_ret, ws_retN, ws_pas, ws_brk, ws_cnt, ws_iff, ws_whl, ws_for, wpE, wpEs, wpO, wt_dsp, wt_cat, wt_slc, wt_rev, wt_lst, wt_srt, wt_sset, wt_comp, wt_compif, wpL, wpG, wpGs, wpI, getv_0, getv_s, setv_0, setv_s, bin_addI, bin_sub, bin_mul, bin_fdiv, bin_mod, cmp_lt, cmp_le, cmp_gt, cmp_ge, cmp_eqI, cmp_neI, asBl_bl, if_ff, if_tt, wipeW_nil, wipeW_cons, List.length_cons, List.length_nil, IGs.len, replicate_s, replicate_0, List.map_cons, List.map_nil, List.cons_append, List.nil_append, Nat.reduceSub, Nat.reduceAdd, true_and, put_same, isLst, idx_tup, idx_rol, idx_ref, set_refI, atI_0, atI_1, atI_2, atI_3, ixN_0, ixN_1, ixN_2, ixN_3, put_put, decide_eq_true_eq, len_tup, len_rol, len_ref, isa_tupT, isa_intI, isa_intB, isa_blB, isa_blI, isa_refL, isNon_int, isNon_tup, isNon_non, nc0, nc1, nc2, nc3, nc4, bff, btf, btt, bft, eq_self, decide_true, if_true, if_false, Bool.not_true, Bool.not_false])
abbrev Cw := (Int × Int) × Int
def cE (e : Cw) : List Key × W := ([Sum.inl e.1.1, Sum.inl e.1.2], .int e.2)
theorem cK_inj {x y : Int × Int} (e : ([Sum.inl x.1, Sum.inl x.2] : List Key) = [Sum.inl y.1, Sum.inl y.2]) : x = y := by
  obtain ⟨x1, x2⟩ := x; obtain ⟨y1, y2⟩ := y
  simpa using e
structure Cs (S : Sto) (a : Addr) (cs : List Cw) : Prop where
  at_ : S a = some (.dt false (cs.map cE))
  nd : (cs.map (·.1)).Nodup
section
variable {S S' : Sto} {a : Addr} {cs : List Cw} {x y k : Int}
theorem Cs.own (h : Cs S a cs) (e : S' a = S a) : Cs S' a cs := ⟨e ▸ h.at_, h.nd⟩
theorem Cs.len (h : Cs S a cs) : lenW (.ref a) S = some cs.length := by rw [len_ref, h.at_]; dsimp only; rw [List.length_map]
theorem Cs.inn (h : Cs S a cs) {Q : Bool → Prop} : inW (.tup [.int x, .int y]) (.ref a) Q S = Q (decide ((x, y) ∈ cs.map (·.1))) := by
  unfold inW
  dsimp only
  rw [h.at_]
  show Q (valD (cs.map cE) [Sum.inl x, Sum.inl y]).isSome = _
  congr 1
  unfold valD
  rw [Option.isSome_map, Bool.eq_iff_iff, List.find?_isSome, decide_eq_true_iff, List.mem_map]
  constructor
  · rintro ⟨kv, hkv, e⟩
    obtain ⟨e', he, rfl⟩ := List.mem_map.mp hkv
    exact ⟨e', he, cK_inj (y := (x, y)) (of_decide_eq_true e)⟩
  · rintro ⟨e', he, e⟩
    refine ⟨cE e', List.mem_map_of_mem he, decide_eq_true ?_⟩
    unfold cE
    rw [e]
theorem find_nd : ∀ {l : List Cw} {e : Cw}, (l.map (·.1)).Nodup → e ∈ l → (l.map cE).find? (fun kv => decide (kv.1 = [Sum.inl e.1.1, Sum.inl e.1.2])) = some (cE e)
  | b :: l, e, nd, he => by
    rw [List.map_cons, List.find?_cons]
    rw [List.map_cons, List.nodup_cons] at nd
    rcases List.mem_cons.mp he with rfl | he
    · rw [show decide ((cE e).1 = [Sum.inl e.1.1, Sum.inl e.1.2]) = true from decide_eq_true rfl]
    · have : decide ((cE b).1 = [Sum.inl e.1.1, Sum.inl e.1.2]) = false := decide_eq_false fun z => by
        have := cK_inj (x := b.1) (y := e.1) z
        exact nd.1 (this ▸ List.mem_map_of_mem he)
      rw [this]
      exact find_nd nd.2 he
theorem Cs.idx (h : Cs S a cs) (hm : ((x, y), k) ∈ cs) : idxW (.ref a) (.tup [.int x, .int y]) S = some (.int k) := by
  unfold idxW
  dsimp only
  rw [h.at_]
  show valD (cs.map cE) [Sum.inl x, Sum.inl y] = _
  unfold valD
  rw [find_nd h.nd hm]; rfl
theorem Cs.set (h : Cs S a cs) (hn : (x, y) ∉ cs.map (·.1)) (hl : cs.length < 16000000) {Q : Sto → Prop} (hq : Cs (put S a (.dt false ((cs ++ [((x, y), k)]).map cE))) a (cs ++ [((x, y), k)]) → Q (put S a (.dt false ((cs ++ [((x, y), k)]).map cE)))) : setW (.ref a) (.tup [.int x, .int y]) (.int k) S Q := by
  unfold setW
  dsimp only
  rw [h.at_]
  show (cs.map cE).length < sizeLine ∧ Q (put S a (.dt false (putD (cs.map cE) [Sum.inl x, Sum.inl y] (.int k))))
  refine ⟨by rw [List.length_map, sizeLine_val]; omega, ?_⟩
  unfold putD
  rw [if_neg fun z => by
    obtain ⟨kv, hkv, e⟩ := List.any_eq_true.mp z
    obtain ⟨e', he, rfl⟩ := List.mem_map.mp hkv
    exact hn (cK_inj (y := (x, y)) (of_decide_eq_true e) ▸ List.mem_map_of_mem he)]
  rw [show cs.map cE ++ [([Sum.inl x, Sum.inl y], W.int k)] = (cs ++ [((x, y), k)]).map cE by rw [List.map_append]; rfl]
  refine hq ⟨put_same, ?_⟩
  rw [List.map_append, List.nodup_append]
  exact ⟨h.nd, by simp, fun u hu v hv => by rw [List.map_singleton, List.mem_singleton] at hv; rintro rfl; rw [hv] at hu; exact hn hu⟩
end
structure Grown (cs : List Cw) (k : Int) (D : Int → Int → Prop) (cs' : List Cw) : Prop where
  mem : ∀ e, e ∈ cs' ↔ e ∈ cs ∨ (e.2 = k ∧ D e.1.1 e.1.2)
theorem Grown.congr {cs cs' : List Cw} {k : Int} {D D' : Int → Int → Prop} (h : Grown cs k D cs') (e : ∀ u v, D u v ↔ D' u v) : Grown cs k D' cs' := ⟨fun z => by rw [h.mem, e]⟩
theorem Grown.add {cs cs' : List Cw} {k x y : Int} {D : Int → Int → Prop} (h : Grown cs k D cs') : Grown cs k (fun u v => D u v ∨ (u = x ∧ v = y)) (cs' ++ [((x, y), k)]) := ⟨fun ⟨⟨u, v⟩, z⟩ => by
  rw [List.mem_append, List.mem_singleton, h.mem]
  constructor
  · rintro ((h | h) | h)
    · exact .inl h
    · exact .inr ⟨h.1, .inl h.2⟩
    · cases h; exact .inr ⟨rfl, .inr ⟨rfl, rfl⟩⟩
  · rintro (h | ⟨h1, h2 | h2⟩)
    · exact .inl (.inl h)
    · exact .inl (.inr ⟨h1, h2⟩)
    · obtain ⟨rfl, rfl⟩ := h2
      dsimp only at h1
      subst h1
      exact .inr rfl⟩
theorem Grown.none {cs : List Cw} {k : Int} : Grown cs k (fun _ _ => False) cs := ⟨fun e => ⟨.inl, fun h => h.elim id fun z => z.2.elim⟩⟩
theorem sum_const {α : Type} (c : Nat) : ∀ l : List α, (l.map fun _ => c).sum = l.length * c
  | [] => by simp
  | a :: l => by rw [List.map_cons, List.sum_cons, sum_const c l, List.length_cons, Nat.succ_mul, Nat.add_comm]
theorem nodup_le {α : Type} [DecidableEq α] : ∀ {l m : List α}, l.Nodup → (∀ x ∈ l, x ∈ m) → l.length ≤ m.length
  | [], _, _, _ => Nat.zero_le _
  | a :: l, m, nd, h => by
    rw [List.nodup_cons] at nd
    have ha := h a (List.mem_cons_self ..)
    have := nodup_le (l := l) (m := m.erase a) nd.2 fun x hx => (List.mem_erase_of_ne (fun e => by rw [e] at hx; exact nd.1 hx)).mpr (h x (List.mem_cons_of_mem _ hx))
    rw [List.length_erase_of_mem ha] at this
    have := List.length_pos_of_mem ha
    rw [List.length_cons]; omega
theorem cells_few {l : List (Int × Int)} {x y w h : Int} (nd : l.Nodup) (hl : ∀ c ∈ l, inB (x, y, w, h) c.1 c.2) : l.length ≤ w.toNat * h.toNat := by
  have hs : ∀ c ∈ l, c ∈ (List.range h.toNat).flatMap fun j : Nat => (List.range w.toNat).map fun i : Nat => (x + (i : Int), y + (j : Int)) := fun c hc => by
    obtain ⟨h1, h2, h3, h4⟩ := hl c hc
    dsimp only at h1 h2 h3 h4
    refine List.mem_flatMap.mpr ⟨(c.2 - y).toNat, List.mem_range.mpr (by omega), List.mem_map.mpr ⟨(c.1 - x).toNat, List.mem_range.mpr (by omega), ?_⟩⟩
    exact Prod.ext (by show x + ((c.1 - x).toNat : Int) = c.1; omega) (by show y + ((c.2 - y).toNat : Int) = c.2; omega)
  have := nodup_le nd hs
  rw [List.length_flatMap] at this
  rw [List.map_congr_left (g := fun _ => w.toNat) (fun a _ => by rw [List.length_map, List.length_range]), sum_const, List.length_range] at this
  rw [Nat.mul_comm]; exact this
structure Room4 (bx : Int × Int × Int × Int) (cs : List Cw) (E : Int → Int → Prop) : Prop where
  i1 : ∀ e ∈ cs, inB bx e.1.1 e.1.2
  i2 : ∀ u v, E u v → inB bx u v
theorem Grown.few {bx : Int × Int × Int × Int} {S : Sto} {a : Addr} {cs cs' : List Cw} {k : Int} {E : Int → Int → Prop} (g : Grown cs k E cs') (h : Cs S a cs') (r : Room4 bx cs E) (hb : bx.2.2.1.toNat * bx.2.2.2.toNat ≤ 10000) : cs'.length ≤ 10000 := by
  obtain ⟨x, y, w, h'⟩ := bx
  have := cells_few (x := x) (y := y) (w := w) (h := h') h.nd fun c hc => by
    obtain ⟨e, he, rfl⟩ := List.mem_map.mp hc
    rcases (g.mem e).mp he with z | ⟨_, z⟩
    · exact r.i1 e z
    · exact r.i2 _ _ z
  rw [List.length_map] at this
  dsimp only at hb
  omega
theorem Grown.not {cs cs' : List Cw} {k x y : Int} {E : Int → Int → Prop} (g : Grown cs k E cs') (h1 : ¬ E x y) (h2 : (x, y) ∉ cs.map (·.1)) : (x, y) ∉ cs'.map (·.1) := fun z => by
  obtain ⟨e, he, e2⟩ := List.mem_map.mp z
  rcases (g.mem e).mp he with z | ⟨_, z⟩
  · exact h2 (e2 ▸ List.mem_map_of_mem z)
  · rw [e2] at z; exact h1 z
structure TkO (n : Nat) (s : Str) : Prop where
  len : s.length ≤ n
  ch : ∀ k ∈ s.cps.toList, k < 1114112
theorem TkO.mono {n m : Nat} {s : Str} (h : TkO n s) (k : n ≤ m) : TkO m s := ⟨Nat.le_trans h.len k, h.ch⟩
theorem str_app_cps (a b : Str) : (a ++ b).cps.toList = a.cps.toList ++ b.cps.toList := by
  show (a.cps ++ b.cps).toList = _
  simp
theorem str_len (a : Str) : a.length = a.cps.toList.length := rfl
theorem str_app_len (a b : Str) : (a ++ b).length = a.length + b.length := by rw [str_len, str_app_cps, List.length_append]; rfl
theorem str_assoc (a b c : Str) : a ++ b ++ c = a ++ (b ++ c) := Str.ext_l (by rw [str_app_cps, str_app_cps, str_app_cps, str_app_cps, List.append_assoc])
theorem TkO.app {n m : Nat} {a b : Str} (h : TkO n a) (k : TkO m b) : TkO (n + m) (a ++ b) := ⟨by rw [str_app_len]; have := h.len; have := k.len; omega, fun z hz => by
  rw [str_app_cps] at hz
  rcases List.mem_append.mp hz with hz | hz
  · exact h.ch z hz
  · exact k.ch z hz⟩
theorem TkO.shaped {n : Nat} {s : Str} (h : TkO n s) : SeqAt.shaped (W.str s).dat = true := by
  unfold SeqAt.shaped
  rw [Bool.and_eq_true]
  refine ⟨?_, rfl⟩
  show (s.cps.all (· < 0x110000)) = true
  rw [← Array.all_toList, List.all_eq_true]
  intro k hk
  have := h.ch k hk
  simpa using this
theorem TkO.of {s : Str} (h : SeqAt.shaped (W.str s).dat = true) : TkO s.length s := ⟨Nat.le_refl _, fun k hk => by
  unfold SeqAt.shaped at h
  rw [Bool.and_eq_true] at h
  have h1 : (s.cps.all (· < 0x110000)) = true := h.1
  rw [← Array.all_toList, List.all_eq_true] at h1
  have := h1 k hk
  simpa using this⟩
def stI (i : Int) : Str := ((toString i : String) : Str)
theorem log2_of {i : Int} (h0 : -(10 ^ 70) ≤ i) (h1 : i ≤ 10 ^ 70) : i.natAbs.log2 < 1920 := by
  have h2 : i.natAbs ≤ 10 ^ 70 := by omega
  by_cases c : i.natAbs = 0
  · rw [c]; decide
  · have := Nat.log2_self_le c
    exact Nat.lt_of_not_le fun z => by
      have h3 : 2 ^ 1920 ≤ 2 ^ i.natAbs.log2 := Nat.pow_le_pow_right (by decide) z
      have h4 : (10 : Nat) ^ 70 < 2 ^ 1920 := by decide +kernel
      omega
theorem stI_ok {i : Int} (h0 : -(10 ^ 70) ≤ i) (h1 : i ≤ 10 ^ 70) : TkO 72 (stI i) := ⟨by
  unfold stI
  have : (PySem.Str.ofString (toString i)).length ≤ 72 := by
    rw [PySem.ofString_length]; exact PySem.int_text_length_le10 (k := 71) (by decide) (by omega)
  exact this, fun k hk => by
  by_cases c : k = 45
  · omega
  · exact Classical.byContradiction fun z => PyProof.Rows.int_text_free' k ⟨c, .inr (by omega)⟩ i hk⟩
theorem strW_int {i : Int} {Q : W → Prop} (h0 : -(10 ^ 70) ≤ i) (h1 : i ≤ 10 ^ 70) (hq : Q (.str (stI i))) : strW (.int i) Q := ⟨log2_of h0 h1, hq⟩
def jn (sep : Str) (l : List Str) : Str := Txt.join sep l
theorem jn_nil (sep : Str) : jn sep [] = "" := by
  refine Str.ext_l ?_
  show (Str.empty).cps.toList = _
  decide +kernel
theorem TkO.lit {s : Str} {n : Nat} (h : (decide (s.length ≤ n) && s.cps.toList.all fun k => decide (k < 1114112)) = true) : TkO n s := by
  rw [Bool.and_eq_true, List.all_eq_true] at h
  exact ⟨of_decide_eq_true h.1, fun k hk => of_decide_eq_true (h.2 k hk)⟩
theorem txok_nil : TkO 0 "" := TkO.lit (by decide +kernel)
theorem foldl_sep (sep : Str) : ∀ (r : List Str) (acc : Array Nat), (r.foldl (fun acc p => acc ++ sep.cps ++ p.cps) acc).toList = acc.toList ++ r.flatMap fun p => sep.cps.toList ++ p.cps.toList
  | [], acc => by simp
  | p :: r, acc => by
    rw [List.foldl_cons, foldl_sep sep r, List.flatMap_cons]
    simp
theorem jn_cps (sep x : Str) (r : List Str) : (jn sep (x :: r)).cps.toList = x.cps.toList ++ r.flatMap fun p => sep.cps.toList ++ p.cps.toList := by
  show (List.foldl (fun acc p => acc ++ sep.cps ++ p.cps) x.cps r).toList = _
  rw [foldl_sep]
theorem jn_one (sep x : Str) : jn sep [x] = x := Str.ext_l (by rw [jn_cps]; simp)
theorem jn_cons (sep x y : Str) (r : List Str) : jn sep (x :: y :: r) = x ++ sep ++ jn sep (y :: r) := Str.ext_l (by rw [jn_cps, str_app_cps, str_app_cps, jn_cps, List.flatMap_cons]; simp)
theorem jn_ok {n m : Nat} {sep : Str} (hs : TkO m sep) : ∀ {l : List Str}, (∀ s ∈ l, TkO n s) → TkO ((n + m) * l.length) (jn sep l)
  | [], _ => by rw [jn_nil]; exact txok_nil.mono (Nat.zero_le _)
  | [x], h => by rw [jn_one]; exact (h x (by simp)).mono (by simp)
  | x :: y :: r, h => by
    rw [jn_cons]
    have h1 := jn_ok hs (l := y :: r) fun s hs' => h s (List.mem_cons_of_mem _ hs')
    have h2 := ((h x (by simp)).app hs).app h1
    refine h2.mono ?_
    rw [List.length_cons (a := x), Nat.mul_succ]
    omega
theorem joinLen_le {n : Nat} {sep : Str} : ∀ {l : List Str}, (∀ s ∈ l, s.length ≤ n) → joinLen sep l ≤ (n + sep.length) * l.length
  | [], _ => by unfold joinLen; simp
  | x :: r, h => by
    have h1 := joinLen_le (sep := sep) (l := r) fun s hs => h s (List.mem_cons_of_mem _ hs)
    have h2 := h x (by simp)
    unfold joinLen at h1 ⊢
    rw [List.map_cons, List.sum_cons, List.length_cons, Nat.succ_mul, Nat.mul_succ]
    omega
theorem joinW_jn {n : Nat} {sep : Str} {l : List Str} {Q : W → Prop} (h : ∀ s ∈ l, TkO n s) (hl : (n + sep.length) * l.length ≤ 16777216) (hq : Q (.str (jn sep l))) : joinW (.str sep) (l.map W.str) Q := by
  unfold joinW
  rw [strsOf_map]
  exact ⟨Nat.le_trans (joinLen_le fun s hs => (h s hs).len) hl, hq⟩
theorem bin_addS' {n m : Nat} {a b : Str} {Q : W → Prop} (h : TkO n a) (k : TkO m b) (hl : n + m ≤ 16777216) (hq : Q (.str (a ++ b))) : binW .add (.str a) (.str b) Q := by
  rw [bin_addS]
  exact ⟨by rw [sizeLine_val]; have := h.len; have := k.len; omega, hq⟩
theorem joinLen_app (sep : Str) (a b : List Str) : joinLen sep (a ++ b) = joinLen sep a + joinLen sep b := by
  unfold joinLen
  rw [List.map_append, List.sum_append, List.length_append, Nat.add_mul]; omega
theorem joinW_of {sep : Str} {l : List Str} {Q : W → Prop} (hl : joinLen sep l ≤ 16777216) (hq : Q (.str (jn sep l))) : joinW (.str sep) (l.map W.str) Q := by
  unfold joinW
  rw [strsOf_map]
  exact ⟨hl, hq⟩
theorem jn_len (sep : Str) : ∀ l : List Str, (jn sep l).length ≤ joinLen sep l
  | [] => by rw [jn_nil]; exact Nat.zero_le _
  | [x] => by rw [jn_one]; unfold joinLen; simp
  | x :: y :: r => by
    rw [jn_cons, str_app_len, str_app_len]
    have h1 := jn_len sep (y :: r)
    have h2 : joinLen sep (x :: y :: r) = joinLen sep [x] + joinLen sep (y :: r) := joinLen_app sep [x] (y :: r)
    have h3 : joinLen sep [x] = x.length + sep.length := by unfold joinLen; simp
    omega
theorem jn_ch {sep : Str} (hs : ∀ k ∈ sep.cps.toList, k < 1114112) : ∀ {l : List Str}, (∀ s ∈ l, ∀ k ∈ s.cps.toList, k < 1114112) → ∀ k ∈ (jn sep l).cps.toList, k < 1114112
  | [], _, k, hk => by
    rw [jn_nil] at hk
    exact txok_nil.ch k hk
  | x :: r, h, k, hk => by
    rw [jn_cps] at hk
    rcases List.mem_append.mp hk with hk | hk
    · exact h x (by simp) k hk
    · obtain ⟨p, hp, hk⟩ := List.mem_flatMap.mp hk
      rcases List.mem_append.mp hk with hk | hk
      · exact hs k hk
      · exact h p (List.mem_cons_of_mem _ hp) k hk
def shSheet (n : Nat) (g : Gr) : List Str := ("sheet " ++ stI n ++ " " ++ stI (gw g) ++ " " ++ stI g.length) :: g.map fun r => "|" ++ txt r
def shSheets (gs : List Gr) (n : Nat) : List Str := (List.range n).flatMap fun i => shSheet i (gs.getD i [])
theorem shSheets_succ (gs : List Gr) (n : Nat) : shSheets gs (n + 1) = shSheets gs n ++ shSheet n (gs.getD n []) := by
  unfold shSheets
  rw [List.range_succ, List.flatMap_append, List.flatMap_singleton]
theorem shSheets_len {gs : List Gr} (h : ∀ g ∈ gs, GOk g) : ∀ {n : Nat}, n ≤ gs.length → (shSheets gs n).length ≤ 61 * n
  | 0, _ => Nat.le_refl _
  | n + 1, hn => by
    have ih := shSheets_len h (n := n) (by omega)
    have := (h _ (getD_mem (show n < gs.length by omega) (d := []))).h1
    rw [shSheets_succ, List.length_append]
    unfold shSheet
    rw [List.length_cons, List.length_map]
    omega
theorem sheet_ok {n : Nat} {g : Gr} (hn : n ≤ 1000) (h : GOk g) : TkO 230 ("sheet " ++ stI n ++ " " ++ stI (gw g) ++ " " ++ stI g.length) := by
  have h1 := h.h1
  have h2 := h.w1
  exact (((((TkO.lit (n := 6) (by decide +kernel)).app (stI_ok (by omega) (by omega))).app (TkO.lit (n := 1) (by decide +kernel))).app (stI_ok (by omega) (by omega))).app (TkO.lit (n := 1) (by decide +kernel))).app (stI_ok (by omega) (by omega)) |>.mono (by decide)
theorem bar_ok {r : List Str} (h : ∀ c ∈ r, SgOk c) (hl : r.length ≤ 60) : TkO 61 ("|" ++ txt r) := by
  have h1 := TkO.of (txt_shaped h)
  rw [txt_len h] at h1
  exact ((TkO.lit (n := 1) (by decide +kernel)).app h1).mono (by omega)
theorem shSheet_ok {n : Nat} {g : Gr} (hn : n ≤ 1000) (h : GOk g) : ∀ s ∈ shSheet n g, TkO 230 s := fun s hs => by
  rcases List.mem_cons.mp hs with rfl | hs
  · exact sheet_ok hn h
  · obtain ⟨r, hr, rfl⟩ := List.mem_map.mp hs
    exact (bar_ok (h.sg r hr) (by rw [h.wr r hr]; exact h.w1)).mono (by decide)
def N_sheet_rows : List Str := ["sheets", "rows", "sheet", "w", "h", "row"]
def ir_sheet_rows : ISs := .cons (.set 1 (.mat (.dsp (.nil)))) (.cons (.for (.nm 2) (.rng (.meth 414 10 "how_many" (.var 0) (.nil))) (.cons (.asg (.tup (.cons (.nm 3) (.cons (.nm 4) .nil))) (.meth 413 10 "size_of" (.var 0) (.cons (.var 2) .nil))) (.cons (.exp (.app (.var 1) (.bin .add (.bin .add (.bin .add (.bin .add (.bin .add (.cst (.str "sheet ")) (.strI (.var 2))) (.cst (.str " "))) (.strI (.var 3))) (.cst (.str " "))) (.strI (.var 4))))) (.cons (.exp (.ext (.var 1) (.t (.comp (.bin .add (.cst (.str "|")) (.var 5)) (.nm 5) (.lst (.of (.meth 420 10 "rows_of" (.var 0) (.cons (.var 2) .nil)))) [5])))) .nil)))) (.cons (.ret (.var 1)) .nil))
def sp_sheet_rows (cl : Nat → Addr) : MSp := fun ws S Q _ => ∃ (s : Addr) (H : Shs) (F : Fp), ws = [.ref s] ∧ ShAt cl S s H F ∧ H.gr.length ≤ 1000 ∧ (∀ g ∈ H.gr, GOk g) ∧ ∀ q S', Sub S S' → S q = none → S' q = some (.lst ((shSheets H.gr H.gr.length).map W.str)) → Q (.ref q) S'
theorem pf_sheet_rows (G : Gs) (hG413 : G 413 = sp_Sheets_size_of G.cl) (hG414 : G 414 = sp_Sheets_how_many G.cl) (hG420 : G 420 = sp_Sheets_rows_of G.cl) (ws : List W) (S : Sto) (Q : WQ) (X : XQ) (h : sp_sheet_rows G.cl ws S Q X) : ws.length = 1 ∧ wpF G 6 ir_sheet_rows ws S Q X := by
  obtain ⟨s, H, F, rfl, sh, hm, gok, hq⟩ := h
  refine ⟨rfl, ?_⟩
  have sz : ∀ {n : Nat}, n ≤ 1000 → n ≤ sizeLine := fun h => by rw [sizeLine_val]; omega
  unfold wpF ir_sheet_rows
  walk_at "wp"
  refine ⟨Nat.zero_le _, fun q hq0 => ?_⟩
  have sb1 : Sub S (put S q (.lst [])) := Sub.put hq0
  have e1 : put S q (.lst []) q = some (.lst []) := put_same
  generalize put S q (.lst []) = S1 at *
  simp only [hG414]
  refine ⟨(sh.sub sb1).ins ⟨by decide +kernel, by decide +kernel, by decide +kernel⟩, s, H, F, rfl, sh.sub sb1, ⟨by omega, by omega⟩, ?_⟩
  refine ForG.by (fun k σ' S' => ∃ b2 b3 b4 : Option W, Sub S S' ∧ S' q = some (.lst ((shSheets H.gr k).map W.str)) ∧ σ' = [some (.ref s), some (.ref q), b2, b3, b4, none]) _ (Sub.refl _) ⟨_, _, _, sb1, e1, rfl⟩ ?_ ?_
  · rintro k xx σ' S' hx' ⟨b2, b3, b4, sb, hS, rfl⟩
    obtain ⟨hk, rfl⟩ := rng_at hx'
    refine ⟨trivial, ?_⟩
    have hk' : k < H.gr.length := by simpa using hk
    have hg : H.gr[k]? = some (H.gr.getD k []) := by rw [getD_at hk']; exact List.getElem?_eq_getElem hk'
    have gk := gok _ (getD_mem hk' (d := []))
    generalize hgd : H.gr.getD k [] = g at *
    walk_at "wp"
    simp only [hG413, hG420, Int.zero_add]
    refine ⟨(sh.sub sb).ins ⟨by decide +kernel, by decide +kernel, by decide +kernel⟩, s, H, F, k, rfl, sh.sub sb, hm, fun k' g' e hg' => ?_, fun z => by omega⟩
    obtain rfl : k' = k := by omega
    rw [hg] at hg'
    cases hg'
    unfold szW
    walk_at "wp"
    have g1 := gk.h1
    have g2 := gk.w1
    have o1 : TkO 6 "sheet " := TkO.lit (by decide +kernel)
    have o0 : TkO 1 " " := TkO.lit (by decide +kernel)
    have i1 : TkO 72 (stI (k' : Int)) := stI_ok (by omega) (by omega)
    have i2 : TkO 72 (stI (gw g : Int)) := stI_ok (by omega) (by omega)
    have i3 : TkO 72 (stI (g.length : Int)) := stI_ok (by omega) (by omega)
    have hsl := shSheets_len gok (n := k') (by omega)
    rw [hS]
    refine ⟨trivial, strW_int (by omega) (by omega) ?_⟩
    refine bin_addS' o1 i1 (by decide) (bin_addS' (o1.app i1) o0 (by decide) (strW_int (by omega) (by omega) ?_))
    refine bin_addS' ((o1.app i1).app o0) i2 (by decide) (bin_addS' (((o1.app i1).app o0).app i2) o0 (by decide) (strW_int (by omega) (by omega) ?_))
    refine bin_addS' ((((o1.app i1).app o0).app i2).app o0) i3 (by decide) ?_
    refine ⟨by rw [List.length_map, sizeLine_val]; omega, ?_⟩
    have sb2 := sb.upd hq0 (o := .lst ((shSheets H.gr k').map W.str ++ [W.str ("sheet " ++ stI k' ++ " " ++ stI (gw g) ++ " " ++ stI g.length)]))
    have e2 : put S' q (.lst ((shSheets H.gr k').map W.str ++ [W.str ("sheet " ++ stI k' ++ " " ++ stI (gw g) ++ " " ++ stI g.length)])) q = some (.lst ((shSheets H.gr k').map W.str ++ [W.str ("sheet " ++ stI k' ++ " " ++ stI (gw g) ++ " " ++ stI g.length)])) := put_same
    generalize put S' q (.lst ((shSheets H.gr k').map W.str ++ [W.str ("sheet " ++ stI k' ++ " " ++ stI (gw g) ++ " " ++ stI g.length)])) = S3 at *
    refine ⟨(sh.sub sb2).ins ⟨by decide +kernel, by decide +kernel, by decide +kernel⟩, s, H, F, k', rfl, sh.sub sb2, hm, gok, fun k2 g2 e hg2 => ?_, fun z => by omega⟩
    obtain rfl : k2 = k' := by omega
    rw [hg] at hg2
    cases hg2
    intro q2 S4 sb4 hq2 hS4
    dsimp only
    rw [hS4]
    dsimp only
    refine CompG.map g (fun r => W.str (txt r)) (fun r => W.str ("|" ++ txt r)) rfl (by omega) hS4 (fun r hr Q' hq' => ?_) ?_
    · walk_at "wp"
      have := bar_ok (gk.sg r hr) (by rw [gk.wr r hr]; exact g2)
      have ht := TkO.of (txt_shaped (gk.sg r hr))
      have hl := gk.wr r hr
      rw [txt_len (gk.sg r hr)] at ht
      exact bin_addS' (TkO.lit (n := 1) (by decide +kernel)) ht (by omega) hq'
    · rw [sb4 _ _ e2]
      refine ⟨by rw [List.length_append, List.length_map, List.length_map, sizeLine_val, List.length_singleton]; omega, _, _, _, (sb2.trans sb4).upd hq0, ?_, rfl⟩
      rw [shSheets_succ, List.map_append]
      unfold shSheet
      rw [show H.gr.getD k2 [] = g by rw [List.getD_eq_getElem?_getD, hg]; rfl, List.map_cons, List.map_map, List.append_assoc]
      rfl
  · rintro σ' S' ⟨b2, b3, b4, sb, hS, rfl⟩
    refine ⟨trivial, ?_⟩
    walk_at "wp"
    rw [rng_len] at hS
    exact ⟨_, Sub.refl _, hq q S' sb hq0 (by simpa using hS)⟩
abbrev Wo := Sum Str Int
def Wo.w : Wo → W
  | .inl s => .str s
  | .inr i => .int i
def Wo.tell : Wo → Str
  | .inl s => s
  | .inr i => stI i
def wdX (k : Int) (f : Fc) : List Wo := [.inl "pane", .inr k, .inl "in", .inr f.par, .inl "sheet", .inr f.sh, .inl "at", .inr f.x, .inr f.y, .inl "size", .inr f.w, .inr f.h, .inl "from", .inr f.sx, .inr f.sy, .inl (if f.hid = true then "hidden" else "shown")]
def wdsP (k : Int) (f : Fc) : List Str := ["pane", stI k, "in", stI f.par, "sheet", stI f.sh, "at", stI f.x, stI f.y, "size", stI f.w, stI f.h, "from", stI f.sx, stI f.sy, if f.hid = true then "hidden" else "shown"]
def Wo.ok : Wo → Prop
  | .inl _ => True
  | .inr i => -(10 ^ 70) ≤ i ∧ i ≤ 10 ^ 70
theorem Wo.strW {z : Wo} {Q : W → Prop} (h : z.ok) (hq : Q (.str z.tell)) : M3.strW z.w Q := by
  cases z with
  | inl s => exact hq
  | inr i => exact strW_int h.1 h.2 hq
def shPane (k : Int) (f : Fc) : Str := jn " " (wdsP k f)
structure WrB (k : Int) (f : Fc) : Prop where
  b : FcB f
  k0 : 0 ≤ k
  k1 : k ≤ 10 ^ 65
  p0 : 0 ≤ f.par
  p1 : f.par ≤ 10 ^ 65
  s0 : 0 ≤ f.sh
  s1 : f.sh ≤ 10 ^ 65
theorem wds_ok {k : Int} {f : Fc} (h : WrB k f) : ∀ s ∈ wdsP k f, TkO 72 s := by
  obtain ⟨⟨⟨a1, a2⟩, ⟨a3, a4⟩, ⟨a5, a6⟩, ⟨a7, a8⟩, ⟨a9, a10⟩, ⟨a11, a12⟩⟩, k0, k1, p0, p1, s0, s1⟩ := h
  have i : ∀ {z : Int}, -(10 ^ 70) ≤ z → z ≤ 10 ^ 70 → TkO 72 (stI z) := fun h0 h1 => stI_ok h0 h1
  unfold wdsP
  intro s hs
  simp only [List.mem_cons, List.not_mem_nil, or_false] at hs
  rcases hs with rfl | rfl | rfl | rfl | rfl | rfl | rfl | rfl | rfl | rfl | rfl | rfl | rfl | rfl | rfl | rfl
  · exact TkO.lit (by decide +kernel)
  · exact i (by omega) (by omega)
  · exact TkO.lit (by decide +kernel)
  · exact i (by omega) (by omega)
  · exact TkO.lit (by decide +kernel)
  · exact i (by omega) (by omega)
  · exact TkO.lit (by decide +kernel)
  · exact i (by omega) (by omega)
  · exact i (by omega) (by omega)
  · exact TkO.lit (by decide +kernel)
  · exact i (by omega) (by omega)
  · exact i (by omega) (by omega)
  · exact TkO.lit (by decide +kernel)
  · exact i (by omega) (by omega)
  · exact i (by omega) (by omega)
  · split <;> exact TkO.lit (by decide +kernel)
theorem shPane_ok {k : Int} {f : Fc} (h : WrB k f) : TkO 1200 (shPane k f) := (jn_ok (TkO.lit (n := 1) (by decide +kernel)) (wds_ok h)).mono (by show (72 + 1) * 16 ≤ _; decide)
def N_pane_row : List Str := ["pane", "told", "parent", "sheet", "x", "y", "w", "h", "sx", "sy", "hidden", "words", "word"]
def ir_pane_row : ISs := .cons (.asg (.tup (.cons (.nm 2) (.cons (.nm 3) (.cons (.nm 4) (.cons (.nm 5) (.cons (.nm 6) (.cons (.nm 7) (.cons (.nm 8) (.cons (.nm 9) (.cons (.nm 10) .nil)))))))))) (.var 1)) (.cons (.set 11 (.mat (.dsp (.cons (.cst (.str "pane")) (.cons (.var 0) (.cons (.cst (.str "in")) (.cons (.var 2) (.cons (.cst (.str "sheet")) (.cons (.var 3) (.cons (.cst (.str "at")) (.cons (.var 4) (.cons (.var 5) (.cons (.cst (.str "size")) (.cons (.var 6) (.cons (.var 7) (.cons (.cst (.str "from")) (.cons (.var 8) (.cons (.var 9) (.cons (.cst (.str "shown")) .nil))))))))))))))))))) (.cons (.iff (.var 10) (.cons (.asg (.sub (.var 11) (.cst (.int (-1)))) (.cst (.str "hidden"))) .nil) (.nil)) (.cons (.ret (.join (.cst (.str " ")) (.t (.comp (.strI (.var 12)) (.nm 12) (.lst (.of (.var 11))) [12])))) .nil)))
def sp_pane_row : MSp := fun ws S Q _ => ∃ (k : Int) (f : Fc), ws = [.int k, .tup (fcL f)] ∧ WrB k f ∧ ∀ S', Sub S S' → Q (.str (shPane k f)) S'
theorem pf_pane_row (G : Gs) (ws : List W) (S : Sto) (Q : WQ) (X : XQ) (h : sp_pane_row ws S Q X) : ws.length = 2 ∧ wpF G 13 ir_pane_row ws S Q X := by
  obtain ⟨k, f, rfl, hb, hq⟩ := h
  refine ⟨rfl, ?_⟩
  obtain ⟨⟨⟨a1, a2⟩, ⟨a3, a4⟩, ⟨a5, a6⟩, ⟨a7, a8⟩, ⟨a9, a10⟩, ⟨a11, a12⟩⟩, k0, k1, p0, p1, s0, s1⟩ := id hb
  have sz : ∀ {n : Nat}, n ≤ 1000 → n ≤ sizeLine := fun h => by rw [sizeLine_val]; omega
  unfold wpF ir_pane_row fcL
  walk_at "wp"
  refine ⟨sz (by decide), fun p hp => ?_⟩
  have hwd : ∀ z ∈ wdX k f, z.ok := by
    unfold wdX
    intro z hz
    simp only [List.mem_cons, List.not_mem_nil, or_false] at hz
    rcases hz with rfl | rfl | rfl | rfl | rfl | rfl | rfl | rfl | rfl | rfl | rfl | rfl | rfl | rfl | rfl | rfl <;> first | exact trivial | exact ⟨by omega, by omega⟩
  have ht : (wdX k f).map (fun z => W.str z.tell) = (wdsP k f).map W.str := rfl
  have fin : ∀ S', Sub S S' → joinW (.str " ") ((wdX k f).map fun z => W.str z.tell) fun w => ∃ S2, Sub S2 S' ∧ Q w S2 := fun S' sb => by
    rw [ht]
    exact joinW_jn (wds_ok hb) (by show (72 + 1) * 16 ≤ _; decide) ⟨_, Sub.refl _, hq S' sb⟩
  have go : ∀ (o : Option W), CompG G (IE.var 12).strI (IG.nm 12) [12] [some (.int k), some (.tup [.int f.par, .int f.sh, .int f.x, .int f.y, .int f.w, .int f.h, .int f.sx, .int f.sy, .bl f.hid]), some (.int f.par), some (.int f.sh), some (.int f.x), some (.int f.y), some (.int f.w), some (.int f.h), some (.int f.sx), some (.int f.sy), some (.bl f.hid), some (.ref p), none] ((wdX k f).map Wo.w) (fun S2 => S2 p = some (.lst ((wdX k f).map Wo.w))) (put S p (.lst ((wdX k f).map Wo.w))) fun ws S1 => joinW (.str " ") ws fun w => ∃ S2, Sub S2 S1 ∧ Q w S2 := fun _ => by
    refine CompG.map (wdX k f) Wo.w (fun z => .str z.tell) rfl (by show 16 ≤ _; decide) put_same (fun z hz Q' hq' => ?_) (fin _ (Sub.put hp))
    walk_at "wp"
    exact Wo.strW (hwd z hz) hq'
  cases hh : f.hid with
  | true =>
    rw [if_pos rfl]
    have e : (wdX k f).map Wo.w = ([W.str "pane", .int k, .str "in", .int f.par, .str "sheet", .int f.sh, .str "at", .int f.x, .int f.y, .str "size", .int f.w, .int f.h, .str "from", .int f.sx, .int f.sy, .str "shown"].set 15 (.str "hidden")) := by unfold wdX; rw [hh]; rfl
    rw [hh, e] at go
    exact ⟨⟨_, rfl⟩, go none⟩
  | false =>
    rw [if_neg (by decide)]
    have e : (wdX k f).map Wo.w = [W.str "pane", .int k, .str "in", .int f.par, .str "sheet", .int f.sh, .str "at", .int f.x, .int f.y, .str "size", .int f.w, .int f.h, .str "from", .int f.sx, .int f.sy, .str "shown"] := by unfold wdX; rw [hh]; rfl
    rw [hh, e] at go
    exact ⟨⟨_, rfl⟩, go none⟩
def shOrder (P : PS) (j : Int) : List Str := if P.c j = [] then [] else ["order " ++ jn " " ((j :: P.c j).map stI)]
def shNext (many : Nat) (nw : Int) : Str := "next " ++ stI many ++ " " ++ stI (nw + 1)
def shRows (gs : List Gr) (P : PS) (nw : Int) : List Str := (shNext gs.length nw :: shSheets gs gs.length ++ P.kf.map fun k => shPane k (P.f k)) ++ (0 :: P.kf).flatMap (shOrder P)
def shText (gs : List Gr) (P : PS) (nw : Int) : Str := jn "\n" (shRows gs P nw) ++ "\n"
structure WrP (P : PS) (nw : Int) (d : Int → Nat) (gs : List Gr) : Prop where
  wf : PWf P nw d
  b : PB P
  v : PV P gs.length
  n1 : nw ≤ 10 ^ 64
  g : gs.length ≤ 200
  gok : ∀ g ∈ gs, GOk g
  kl : P.kf.length ≤ 62
section
variable {P : PS} {nw : Int} {d : Int → Nat} {gs : List Gr}
theorem WrP.wr (h : WrP P nw d gs) {k : Int} (hk : k ∈ P.kf) : WrB k (P.f k) := by
  have h1 := h.wf.pos k hk
  have h2 := h.v k hk
  have h3 := h.n1
  have h4 := h.g
  have h5 := h.wf.par k hk
  rw [h.wf.kl] at h5
  have h6 : 0 ≤ (P.f k).par ∧ (P.f k).par ≤ nw := by
    rcases List.mem_cons.mp h5 with e | e
    · have := h.wf.n0; omega
    · have := h.wf.pos _ e; omega
  exact ⟨h.b k hk, by omega, by omega, by omega, by omega, by omega, by omega⟩
theorem WrP.num (h : WrP P nw d gs) {k : Int} (hk : k ∈ P.kl) : -(10 ^ 70) ≤ k ∧ k ≤ 10 ^ 70 := by
  have h3 := h.n1
  rw [h.wf.kl] at hk
  rcases List.mem_cons.mp hk with e | e
  · omega
  · have := h.wf.pos _ e; omega
theorem WrP.clen (h : WrP P nw d gs) {j : Int} (hj : j ∈ P.kl) : (P.c j).length ≤ 62 := Nat.le_trans (nodup_le (h.wf.nd j hj) fun k hk => ((h.wf.ch j hj k).mp hk).1) h.kl
theorem WrP.ord (h : WrP P nw d gs) {j : Int} (hj : j ∈ P.kl) : ∀ s ∈ (j :: P.c j).map stI, TkO 72 s := fun s hs => by
  obtain ⟨k, hk, rfl⟩ := List.mem_map.mp hs
  have : k ∈ P.kl := by
    rcases List.mem_cons.mp hk with rfl | hk
    · exact hj
    · rw [h.wf.kl]; exact List.mem_cons_of_mem _ ((h.wf.ch j hj k).mp hk).1
  exact stI_ok (h.num this).1 (h.num this).2
theorem WrP.ordT (h : WrP P nw d gs) {j : Int} (hj : j ∈ P.kl) : TkO 4700 ("order " ++ jn " " ((j :: P.c j).map stI)) := by
  have h1 := jn_ok (TkO.lit (n := 1) (s := " ") (by decide +kernel)) (h.ord hj)
  have h2 := h.clen hj
  rw [List.length_map, List.length_cons] at h1
  exact ((TkO.lit (n := 6) (by decide +kernel)).app h1).mono (by omega)
theorem WrP.next (h : WrP P nw d gs) : TkO 200 (shNext gs.length nw) := by
  have h1 := h.n1
  have h2 := h.g
  have h3 := h.wf.n0
  exact ((((TkO.lit (n := 5) (by decide +kernel)).app (stI_ok (by omega) (by omega))).app (TkO.lit (n := 1) (by decide +kernel))).app (stI_ok (by omega) (by omega))).mono (by decide)
theorem WrP.shs (h : WrP P nw d gs) : ∀ s ∈ shSheets gs gs.length, TkO 230 s := fun s hs => by
  obtain ⟨i, hi, hs⟩ := List.mem_flatMap.mp hs
  rw [List.mem_range] at hi
  exact shSheet_ok (by have := h.g; omega) (h.gok _ (getD_mem hi)) s hs
theorem WrP.pns (h : WrP P nw d gs) : ∀ s ∈ P.kf.map (fun k => shPane k (P.f k)), TkO 1200 s := fun s hs => by
  obtain ⟨k, hk, rfl⟩ := List.mem_map.mp hs
  exact shPane_ok (h.wr hk)
theorem WrP.ords (h : WrP P nw d gs) : ∀ s ∈ (0 :: P.kf).flatMap (shOrder P), TkO 4700 s := fun s hs => by
  obtain ⟨j, hj, hs⟩ := List.mem_flatMap.mp hs
  unfold shOrder at hs
  split at hs
  · cases hs
  · rw [List.mem_singleton.mp hs]
    exact h.ordT (by rw [h.wf.kl]; exact hj)
theorem ords_len (P : PS) : ∀ l : List Int, (l.flatMap (shOrder P)).length ≤ l.length
  | [] => Nat.le_refl _
  | j :: l => by
    have h1 := ords_len P l
    have h2 : (shOrder P j).length ≤ 1 := by unfold shOrder; split <;> simp
    rw [List.flatMap_cons, List.length_append, List.length_cons]
    omega
theorem WrP.rows (h : WrP P nw d gs) : joinLen "\n" (shRows gs P nw) ≤ 6000000 := by
  have e1 : (("\n" : Str)).length = 1 := by decide +kernel
  have l1 := joinLen_le (n := 200) (sep := "\n") (l := [shNext gs.length nw]) fun s hs => by rw [List.mem_singleton.mp hs]; exact h.next.len
  have l2 := joinLen_le (sep := "\n") fun s hs => (h.shs s hs).len
  have l3 := joinLen_le (sep := "\n") fun s hs => (h.pns s hs).len
  have l4 := joinLen_le (sep := "\n") fun s hs => (h.ords s hs).len
  have k2 := shSheets_len h.gok (Nat.le_refl gs.length)
  have k4 := ords_len P (0 :: P.kf)
  have h1 := h.g
  have h2 := h.kl
  rw [e1] at l1 l2 l3 l4
  rw [List.length_map] at l3
  rw [List.length_singleton] at l1
  rw [List.length_cons] at k4
  unfold shRows
  rw [joinLen_app, joinLen_app, show joinLen "\n" (shNext gs.length nw :: shSheets gs gs.length) = joinLen "\n" [shNext gs.length nw] + joinLen "\n" (shSheets gs gs.length) from joinLen_app _ [shNext gs.length nw] _]
  have m2 : (230 + 1) * (shSheets gs gs.length).length ≤ 231 * 12200 := Nat.mul_le_mul_left _ (by omega)
  have m3 : (1200 + 1) * P.kf.length ≤ 1201 * 62 := Nat.mul_le_mul_left _ h2
  have m4 : (4700 + 1) * ((0 :: P.kf).flatMap (shOrder P)).length ≤ 4701 * 63 := Nat.mul_le_mul_left _ (by omega)
  omega
end
theorem shRows_ch {P : PS} {nw : Int} {d : Int → Nat} {gs : List Gr} (h : WrP P nw d gs) : ∀ s ∈ shRows gs P nw, ∀ k ∈ s.cps.toList, k < 1114112 := fun s hs => by
  rcases List.mem_append.mp hs with hs | hs
  · rcases List.mem_cons.mp hs with rfl | hs
    · exact h.next.ch
    · rcases List.mem_append.mp hs with hs | hs
      · exact (h.shs s hs).ch
      · exact (h.pns s hs).ch
  · exact (h.ords s hs).ch
theorem shText_ok {P : PS} {nw : Int} {d : Int → Nat} {gs : List Gr} (h : WrP P nw d gs) : TkO 6000001 (shText gs P nw) :=
  TkO.app ⟨Nat.le_trans (jn_len _ _) h.rows, jn_ch (TkO.lit (n := 1) (s := "\n") (by decide +kernel)).ch (shRows_ch h)⟩ (TkO.lit (n := 1) (by decide +kernel))
theorem text_end {P : PS} {nw : Int} {d : Int → Nat} {gs : List Gr} {Q : W → Prop} (h : WrP P nw d gs) (hq : Q (.str (shText gs P nw))) : joinW (.str "\n") ((shRows gs P nw).map W.str) fun w => binW .add w (.str "\n") Q :=
  joinW_of (Nat.le_trans h.rows (by decide)) (bin_addS' (n := 6000000) ⟨Nat.le_trans (jn_len _ _) h.rows, jn_ch (TkO.lit (n := 1) (s := "\n") (by decide +kernel)).ch (shRows_ch h)⟩ (TkO.lit (n := 1) (by decide +kernel)) (by decide) hq)
def N_show_panes : List Str := ["panes", "sheets", "rows", "numbers", "pane", "parent", "inside"]
def ir_show_panes : ISs := .cons (.set 1 (.meth 428 11 "sheets_kept" (.var 0) (.nil))) (.cons (.set 2 (.mat (.dsp (.cons (.bin .add (.bin .add (.bin .add (.cst (.str "next ")) (.strI (.meth 414 10 "how_many" (.var 1) (.nil)))) (.cst (.str " "))) (.strI (.meth 434 11 "following" (.var 0) (.nil)))) .nil)))) (.cons (.exp (.ext (.var 2) (.of (.call 239 (.cons (.var 1) .nil))))) (.cons (.set 3 (.meth 433 11 "all_panes" (.var 0) (.nil))) (.cons (.exp (.ext (.var 2) (.t (.comp (.call 240 (.cons (.var 4) (.cons (.meth 431 11 "told" (.var 0) (.cons (.var 4) .nil)) .nil))) (.nm 4) (.lst (.of (.var 3))) [4])))) (.cons (.for (.nm 5) (.lst (.t (.cat (.t (.dsp (.cons (.cst (.int 0)) .nil))) (.of (.var 3))))) (.cons (.set 6 (.meth 432 11 "inside" (.var 0) (.cons (.var 5) .nil))) (.cons (.iff (.eql false (.of (.var 6)) (.t (.dsp (.nil)))) (.cons (.exp (.app (.var 2) (.bin .add (.cst (.str "order ")) (.join (.cst (.str " ")) (.t (.comp (.strI (.var 4)) (.nm 4) (.lst (.t (.cat (.t (.dsp (.cons (.var 5) .nil))) (.of (.var 6))))) [4])))))) .nil) (.nil)) .nil))) (.cons (.ret (.bin .add (.join (.cst (.str "\n")) (.of (.var 2))) (.cst (.str "\n")))) .nil))))))
def ir_show_panes_t5 : ISs := .cons (.for (.nm 5) (.lst (.t (.cat (.t (.dsp (.cons (.cst (.int 0)) .nil))) (.of (.var 3))))) (.cons (.set 6 (.meth 432 11 "inside" (.var 0) (.cons (.var 5) .nil))) (.cons (.iff (.eql false (.of (.var 6)) (.t (.dsp (.nil)))) (.cons (.exp (.app (.var 2) (.bin .add (.cst (.str "order ")) (.join (.cst (.str " ")) (.t (.comp (.strI (.var 4)) (.nm 4) (.lst (.t (.cat (.t (.dsp (.cons (.var 5) .nil))) (.of (.var 6))))) [4])))))) .nil) (.nil)) .nil))) (.cons (.ret (.bin .add (.join (.cst (.str "\n")) (.of (.var 2))) (.cst (.str "\n")))) .nil)
theorem show_tail {G : Gs} (hG432 : G 432 = sp_Panes_inside G.cl) {D : MEnds} {S0 S : Sto} {aP : PR → Addr} {s p qn : Addr} {nw : Int} {P : PS} {d : Int → Nat} {gs : List Gr} {a1 a4 a5 a6 : Option W}
    (c : PCtx G.cl S0 aP s nw P d gs.length) (hp0 : S0 p = none) (sb0 : Sub S0 S) (wr : WrP P nw d gs) (hp : S p = some (.lst ((shNext gs.length nw :: shSheets gs gs.length ++ P.kf.map fun k => shPane k (P.f k)).map W.str))) (hn : S qn = some (.lst (P.kf.map W.int)))
    (hq : ∀ S', Sub S0 S' → D.rt (.str (shText gs P nw)) S') : wpSs G ir_show_panes_t5 D [some (.ref (aP .obj)), a1, some (.ref p), some (.ref qn), a4, a5, a6] S := by
  have sz : ∀ {n : Nat}, n ≤ 1000 → n ≤ sizeLine := fun h => by rw [sizeLine_val]; omega
  have w := wr.wf
  have kl := wr.kl
  have g200 := wr.g
  have hsl := shSheets_len wr.gok (Nat.le_refl gs.length)
  unfold ir_show_panes_t5
  walk_at "wp"
  rw [hn]
  dsimp only
  refine ⟨sz (by decide), nofun, nofun, by rw [List.length_map, sizeLine_val]; omega, ?_⟩
  refine ForG.map (0 :: P.kf) W.int rfl (fun dn r σ' S' => ∃ b5 b6 : Option W, Sub S0 S' ∧ S' p = some (.lst (((shNext gs.length nw :: shSheets gs gs.length ++ P.kf.map fun k => shPane k (P.f k)) ++ dn.flatMap (shOrder P)).map W.str)) ∧ σ' = [some (.ref (aP .obj)), a1, some (.ref p), some (.ref qn), a4, b5, b6]) _ (Sub.refl _)
    ⟨_, _, sb0, by rw [List.flatMap_nil, List.append_nil]; exact hp, rfl⟩ ?_ ?_
  · rintro dn j r σ' S' hsp ⟨b5, b6, sb, hS, rfl⟩
    refine ⟨trivial, ?_⟩
    have hj : j ∈ P.kl := by rw [w.kl, hsp]; simp
    have c1 := c.sub sb
    have hdn : dn.length ≤ 63 := by
      have := congrArg List.length hsp
      rw [List.length_append, List.length_cons, List.length_cons] at this
      omega
    have hol := ords_len P dn
    walk_at "wp"
    simp only [hG432]
    refine ⟨c1.lay.ins (by decide +kernel), aP, s, nw, P, d, gs.length, j, rfl, c1, POut.of (fun _ => ?_) fun n hn => by simp only [PRow.bad] at hn; rw [if_neg (fun z => z hj)] at hn; cases hn⟩
    unfold PRow.res
    dsimp only
    intro q hq0
    have sb2 := sb.trans (Sub.put hq0 (o := .lst ((P.c j).map W.int)))
    have e2 : put S' q (.lst ((P.c j).map W.int)) q = some (.lst ((P.c j).map W.int)) := put_same
    have hS2 := Sub.put hq0 (o := .lst ((P.c j).map W.int)) _ _ hS
    generalize put S' q (.lst ((P.c j).map W.int)) = S2 at *
    rw [e2]
    dsimp only
    refine ⟨Nat.zero_le _, nofun, nofun, rfl, EncOk.eqsOk (d := 0) EncOk.int (by decide) (P.c j), EncOk.eqsOk (d := 0) EncOk.int (by decide) [], ?_⟩
    rw [show W.eqvs ((P.c j).map W.int) [] = decide (P.c j = []) from EncOk.eqvs (d := 0) EncOk.int (P.c j) []]
    have hcl := wr.clen hj
    by_cases c0 : P.c j = []
    · rw [if_neg (by simp [c0])]
      have key : ((shNext gs.length nw :: shSheets gs gs.length ++ P.kf.map fun k => shPane k (P.f k)) ++ dn.flatMap (shOrder P)) = ((shNext gs.length nw :: shSheets gs gs.length ++ P.kf.map fun k => shPane k (P.f k)) ++ (dn ++ [j]).flatMap (shOrder P)) := by
        rw [List.flatMap_append, List.flatMap_singleton]
        unfold shOrder
        rw [if_pos c0, List.append_nil]
      exact ⟨_, _, sb2, hS2.trans (congrArg (fun l : List Str => some (MO.lst (l.map W.str))) key), rfl⟩
    · rw [if_pos (by simp [c0]), hS2]
      refine ⟨trivial, ⟨_, rfl⟩, sz (by decide), nofun, nofun, by rw [List.length_map, sizeLine_val]; omega, ?_⟩
      refine CompG.map (j :: P.c j) W.int (fun k => .str (stI k)) rfl (by rw [List.length_cons]; omega) ?_ (fun k hk Q' hq' => ?_) ?_
      · trivial
      · have hk' : k ∈ P.kl := by
          rcases List.mem_cons.mp hk with rfl | hk
          · exact hj
          · rw [w.kl]; exact List.mem_cons_of_mem _ ((w.ch j hj k).mp hk).1
        walk_at "wp"
        exact strW_int (wr.num hk').1 (wr.num hk').2 hq'
      · have hd := wr.ord hj
        rw [show (j :: P.c j).map (fun k => W.str (stI k)) = ((j :: P.c j).map stI).map W.str by rw [List.map_map]; rfl]
        have ej := (jn_ok (TkO.lit (n := 1) (s := " ") (by decide +kernel)) hd)
        rw [List.length_map, List.length_cons] at ej
        refine joinW_jn hd (by rw [List.length_map, List.length_cons]; show (72 + 1) * _ ≤ _; omega) (bin_addS' (TkO.lit (n := 6) (by decide +kernel)) ej (by omega) ?_)
        rw [hS2]
        refine ⟨?_, _, _, sb2.upd hp0, ?_, rfl⟩
        · show (List.map W.str ((shNext gs.length nw :: shSheets gs gs.length ++ P.kf.map fun k => shPane k (P.f k)) ++ dn.flatMap (shOrder P))).length < _
          rw [List.length_map, List.length_append, List.length_append, List.length_cons, List.length_map, sizeLine_val]
          omega
        · have key : ((shNext gs.length nw :: shSheets gs gs.length ++ P.kf.map fun k => shPane k (P.f k)) ++ dn.flatMap (shOrder P)).map W.str ++ [W.str ("order " ++ jn " " ((j :: P.c j).map stI))] = ((shNext gs.length nw :: shSheets gs gs.length ++ P.kf.map fun k => shPane k (P.f k)) ++ (dn ++ [j]).flatMap (shOrder P)).map W.str := by
            rw [List.flatMap_append, List.flatMap_singleton, ← List.append_assoc, List.map_append (l₂ := shOrder P j)]
            unfold shOrder
            rw [if_neg c0]
            rfl
          exact congrArg (fun l => some (MO.lst l)) key
  · rintro σ' S' ⟨b5, b6, sb, hS, rfl⟩
    refine ⟨trivial, ?_⟩
    walk_at "wp"
    refine ⟨⟨_, rfl⟩, ?_⟩
    rw [hS]
    exact text_end wr (hq S' sb)
def sp_show_panes (cl : Nat → Addr) : MSp := fun ws S Q _ => ∃ (aP : PR → Addr) (s : Addr) (nw : Int) (P : PS) (d : Int → Nat) (H : Shs) (F : Fp), ws = [.ref (aP .obj)] ∧ PCtx cl S aP s nw P d H.gr.length ∧ ShAt cl S s H F ∧ WrP P nw d H.gr ∧ ∀ S', Sub S S' → Q (.str (shText H.gr P nw)) S'
theorem pf_show_panes (G : Gs) (hG239 : G 239 = sp_sheet_rows G.cl) (hG240 : G 240 = sp_pane_row) (hG414 : G 414 = sp_Sheets_how_many G.cl) (hG428 : G 428 = sp_Panes_sheets_kept G.cl) (hG431 : G 431 = sp_Panes_told G.cl) (hG432 : G 432 = sp_Panes_inside G.cl) (hG433 : G 433 = sp_Panes_all_panes G.cl) (hG434 : G 434 = sp_Panes_following G.cl) (ws : List W) (S : Sto) (Q : WQ) (X : XQ) (h : sp_show_panes G.cl ws S Q X) : ws.length = 1 ∧ wpF G 7 ir_show_panes ws S Q X := by
  obtain ⟨aP, s, nw, P, d, H, F, rfl, c, sh, wr, hq⟩ := h
  refine ⟨rfl, ?_⟩
  have sz : ∀ {n : Nat}, n ≤ 1000 → n ≤ sizeLine := fun h => by rw [sizeLine_val]; omega
  have g200 := wr.g
  have n1 := wr.n1
  have n0 := wr.wf.n0
  unfold wpF ir_show_panes
  show wpSs G (.cons _ (.cons _ (.cons _ (.cons _ (.cons _ ir_show_panes_t5))))) _ _ _
  generalize hR : ir_show_panes_t5 = R
  walk_at "wp"
  simp only [hG428, hG414, hG434]
  refine ⟨c.lay.ins (by decide +kernel), aP, s, nw, P, rfl, c.lay, sh.ins ⟨by decide +kernel, by decide +kernel, by decide +kernel⟩, s, H, F, rfl, sh, ?_⟩
  have o1 : TkO 5 "next " := TkO.lit (by decide +kernel)
  have o0 : TkO 1 " " := TkO.lit (by decide +kernel)
  have i1 : TkO 72 (stI (H.gr.length : Int)) := stI_ok (by omega) (by omega)
  have i2 : TkO 72 (stI (nw + 1)) := stI_ok (by omega) (by omega)
  refine strW_int (by omega) (by omega) (bin_addS' o1 i1 (by decide) (bin_addS' (o1.app i1) o0 (by decide) ?_))
  refine ⟨c.lay.ins (by decide +kernel), aP, s, nw, P, d, H.gr.length, rfl, c, POut.of (fun _ => ?_) fun n hn => by cases hn⟩
  unfold PRow.res
  dsimp only
  refine strW_int (by omega) (by omega) (bin_addS' ((o1.app i1).app o0) i2 (by decide) ⟨sz (by decide), fun p hp => ?_⟩)
  have sb1 : Sub S (put S p (.lst [.str (shNext H.gr.length nw)])) := Sub.put hp
  have e1 : put S p (.lst [.str (shNext H.gr.length nw)]) p = some (.lst [.str (shNext H.gr.length nw)]) := put_same
  show G.fn 239 [W.ref s] (put S p (.lst [.str (shNext H.gr.length nw)])) _ _
  generalize put S p (.lst [.str (shNext H.gr.length nw)]) = S1 at *
  rw [hG239]
  refine ⟨s, H, F, rfl, sh.sub sb1, by omega, wr.gok, fun q2 S2 sb2 q2N hq2 => ?_⟩
  have pq2 : p ≠ q2 := fun e => by rw [← e, e1] at q2N; cases q2N
  dsimp only
  rw [hq2]
  dsimp only
  rw [sb2 _ _ e1]
  have hsl := shSheets_len wr.gok (Nat.le_refl H.gr.length)
  refine ⟨by rw [List.length_map, sizeLine_val, List.length_singleton]; omega, ?_⟩
  have sb3 := (sb1.trans sb2).upd hp (o := .lst ([W.str (shNext H.gr.length nw)] ++ (shSheets H.gr H.gr.length).map W.str))
  have e3 : put S2 p (.lst ([W.str (shNext H.gr.length nw)] ++ (shSheets H.gr H.gr.length).map W.str)) p = some (.lst ((shNext H.gr.length nw :: shSheets H.gr H.gr.length).map W.str)) := put_same
  generalize put S2 p (.lst ([W.str (shNext H.gr.length nw)] ++ (shSheets H.gr H.gr.length).map W.str)) = S3 at *
  have c3 := c.sub sb3
  rw [hG433]
  refine ⟨c3.lay.ins (by decide +kernel), aP, s, nw, P, d, H.gr.length, rfl, c3, POut.of (fun _ => ?_) fun n hn => by cases hn⟩
  unfold PRow.res
  dsimp only
  intro qn qnN
  have sb4 : Sub S3 (put S3 qn (.lst (P.kf.map W.int))) := Sub.put qnN
  have e4 : put S3 qn (.lst (P.kf.map W.int)) qn = some (.lst (P.kf.map W.int)) := put_same
  have pqn : p ≠ qn := fun e => by rw [← e, e3] at qnN; cases qnN
  generalize put S3 qn (.lst (P.kf.map W.int)) = S4 at *
  rw [sb4 _ _ e3, e4]
  refine ⟨trivial, ?_⟩
  refine CompG.inv P.kf W.int rfl (fun dn acc S' => Sub S4 S' ∧ acc = dn.map fun k => W.str (shPane k (P.f k))) _ (Sub.refl _) ⟨Sub.refl _, rfl⟩ ?_ ?_
  · rintro dn k r acc S' hsp ⟨sb5, rfl⟩
    refine ⟨sb5 _ _ e4, ?_⟩
    have hk : k ∈ P.kf := by rw [hsp]; simp
    have c5 := (c3.sub sb4).sub sb5
    walk_at "wp"
    simp only [hG431, hG240]
    refine ⟨c5.lay.ins (by decide +kernel), aP, s, nw, P, d, H.gr.length, k, rfl, c5, POut.of (fun _ => ?_) fun n hn => by simp only [PRow.bad] at hn; rw [if_neg (fun z => z hk)] at hn; cases hn⟩
    unfold PRow.res
    dsimp only
    refine ⟨k, P.f k, rfl, wr.wr hk, fun S6 sb6 => ⟨?_, sb5.trans sb6, by rw [List.map_append]; rfl⟩⟩
    have := congrArg List.length hsp
    rw [List.length_append, List.length_cons] at this
    have := wr.kl
    rw [List.length_map, sizeLine_val]; omega
  · rintro acc S5 ⟨sb5, rfl⟩
    refine ⟨sb5 _ _ e4, ?_⟩
    have e5 : S5 p = some (.lst ((shNext H.gr.length nw :: shSheets H.gr H.gr.length).map W.str)) := sb5 _ _ (sb4 _ _ e3)
    rw [e5]
    dsimp only
    refine ⟨by rw [List.length_map, List.length_map, sizeLine_val, List.length_cons]; have := wr.kl; omega, ?_⟩
    rw [← hR]
    have e6 : (shNext H.gr.length nw :: shSheets H.gr H.gr.length).map W.str ++ P.kf.map (fun k => W.str (shPane k (P.f k))) = (shNext H.gr.length nw :: shSheets H.gr H.gr.length ++ P.kf.map fun k => shPane k (P.f k)).map W.str := by rw [List.map_append, List.map_map]; rfl
    rw [e6]
    have sb6 := ((sb3.trans sb4).trans sb5).upd hp (o := .lst ((shNext H.gr.length nw :: shSheets H.gr H.gr.length ++ P.kf.map fun k => shPane k (P.f k)).map W.str))
    exact show_tail hG432 c hp sb6 wr put_same (by rw [put_ne (Ne.symm pqn)]; exact sb5 _ _ e4) fun S7 sb7 => ⟨_, Sub.refl _, hq S7 sb7⟩
structure DS (cl : Nat → Addr) (S0 S : Sto) (aP aS : PR → Addr) (s gd : Addr) (nw : Int) (P : PS) (d : Int → Nat) (H : Shs) (F E : Fp) (pA mA : Addr) (n : Nat) : Prop where
  jm : JM cl S0 S aP aS s gd nw P d nw P d H H.gr F E
  e1 : aP .obj = pA
  e2 : aS .obj = mA
  k12 : P.kf.length ≤ 12
  g1 : 1 ≤ H.gr.length
  g3 : H.gr.length ≤ 3 + n
  dd : H.dd.length ≤ n
  pv : PV P H.gr.length
  pb : PB P
  nwb : nw ≤ n
section
variable {cl : Nat → Addr} {S0 S S' : Sto} {aP aS : PR → Addr} {s gd : Addr} {nw : Int} {P : PS} {d : Int → Nat} {H : Shs} {F E : Fp} {pA mA : Addr} {n : Nat}
theorem DS.start (j : JM cl S0 S aP aS s gd 0 P0 (fun _ => 0) 0 P0 (fun _ => 0) H H.gr F E) (g1 : 1 ≤ H.gr.length) (g3 : H.gr.length ≤ 3) (dd : H.dd = []) : DS cl S0 S aP aS s gd 0 P0 (fun _ => 0) H F E (aP .obj) (aS .obj) 0 :=
  ⟨j, rfl, rfl, Nat.zero_le _, g1, g3, by rw [dd]; exact Nat.le_refl _, (fun k hk => by cases hk), (fun k hk => by cases hk), by decide⟩
theorem DS.less (j : DS cl S0 S aP aS s gd nw P d H F E pA mA n) (k : Sub S S') : DS cl S0 S' aP aS s gd nw P d H F E pA mA n := { j with jm := j.jm.less k }
theorem DS.deed (j : DS cl S0 S aP aS s gd nw P d H F E pA mA n) (hn : n ≤ 64) {ra : Addr} {rs : List Int} {m : Nat} {far : Int} {Q : WQ} {X : XQ} (hr : S ra = some (.lst (rs.map W.int))) (hd : DrOk rs m) (hm : 5 ≤ m) (hra : ¬ f4 aP aS P P F E ra) (hf : FarOk far)
    (hq : ∀ aP' aS' nw' P' d' H' F' E' S', DS cl S0 S' aP' aS' s gd nw' P' d' H' F' E' pA mA (n + 1) → Own (f4 aP aS P P F E) S (f4 aP' aS' P' P' F' E') S' → S' ra = some (.lst (rs.map W.int)) → Q .non S') : sp_law_deed_v6 cl [.ref pA, .ref mA, .ref ra, .int far] S Q X := by
  have h12 := j.k12
  have hg3 := j.g3
  have hdd := j.dd
  refine ⟨S0, aP, aS, s, gd, nw, P, d, H, F, E, ra, rs, m, far, by rw [j.e1, j.e2], j.jm, hr, hd, hm, hra, hf, j.g1, by omega, by omega, by omega, fun aP3 aS3 nw3 P3 d3 H3 F3 E3 S4 j4 e3 e4 k4 g4 g5 pv ow => ?_⟩
  exact hq aP3 aS3 nw3 P3 d3 H3 F3 E3 S4 ⟨j4, by rw [e3, j.e1], by rw [e4, j.e2], by omega, by have := j.g1; omega, by omega, by omega, (pv ⟨j.pv, j.pb⟩).1, (pv ⟨j.pv, j.pb⟩).2, by have := j.nwb; have := g4.2.2; push_cast; omega⟩ ow (ow.fr _ _ hra hr)
theorem DS.new (j : DS cl S0 S aP aS s gd nw P d H F E pA mA n) {q : Addr} (h : S q = none) : ¬ f4 aP aS P P F E q := fun z => j.jm.known z h
theorem DS.ctx (j : DS cl S0 S aP aS s gd nw P d H F E pA mA n) (hn : n ≤ 64) : PCtx cl S aP s nw P d H.gr.length := j.jm.ctx (by have := j.k12; omega) (by have := j.g3; omega)
end
structure Hd (A : Fp) (S : Sto) (t : Addr) (ps : List (Addr × Addr)) : Prop where
  top : S t = some (.lst (ps.map fun p => .tup [.ref p.1, .ref p.2]))
  nt : ¬ A t
  np : ∀ p ∈ ps, ¬ A p.1 ∧ ¬ A p.2 ∧ p.1 ≠ t ∧ p.2 ≠ t
  eq : ∀ p ∈ ps, ∃ L : List W, (∀ w ∈ L, ShW 5 w) ∧ S p.1 = some (.lst L) ∧ S p.2 = some (.lst L)
section
variable {A A' : Fp} {S S' : Sto} {t q a b : Addr} {ps : List (Addr × Addr)}
theorem Hd.nil (h : S t = some (.lst [])) (n : ¬ A t) : Hd A S t [] := ⟨h, n, (fun p hp => by cases hp), (fun p hp => by cases hp)⟩
theorem Hd.sub (h : Hd A S t ps) (k : Sub S S') : Hd A S' t ps := ⟨k _ _ h.top, h.nt, h.np, fun p hp => by
  obtain ⟨L, h1, h2, h3⟩ := h.eq p hp
  exact ⟨L, h1, k _ _ h2, k _ _ h3⟩⟩
theorem Hd.own (h : Hd A S t ps) (k : Own A S A' S') : Hd A' S' t ps := by
  refine ⟨k.fr _ _ h.nt h.top, k.no h.nt h.top, fun p hp => ?_, fun p hp => ?_⟩
  · obtain ⟨n1, n2, n3, n4⟩ := h.np p hp
    obtain ⟨L, h1, h2, h3⟩ := h.eq p hp
    exact ⟨k.no n1 h2, k.no n2 h3, n3, n4⟩
  · obtain ⟨n1, n2, n3, n4⟩ := h.np p hp
    obtain ⟨L, h1, h2, h3⟩ := h.eq p hp
    exact ⟨L, h1, k.fr _ _ n1 h2, k.fr _ _ n2 h3⟩
theorem Hd.apart (h : Hd A S t ps) (k : S q = none) : q ≠ t ∧ ∀ p ∈ ps, q ≠ p.1 ∧ q ≠ p.2 := ⟨(fun e => by have := h.top; rw [← e, k] at this; cases this), fun p hp => by
  obtain ⟨L, h1, h2, h3⟩ := h.eq p hp
  exact ⟨(fun e => by rw [← e, k] at h2; cases h2), (fun e => by rw [← e, k] at h3; cases h3)⟩⟩
theorem Hd.put (h : Hd A S t ps) {o : MO} (n : q ≠ t ∧ ∀ p ∈ ps, q ≠ p.1 ∧ q ≠ p.2) : Hd A (M3.put S q o) t ps := ⟨by rw [put_ne (Ne.symm n.1)]; exact h.top, h.nt, h.np, fun p hp => by
  obtain ⟨L, h1, h2, h3⟩ := h.eq p hp
  exact ⟨L, h1, by rw [put_ne (Ne.symm (n.2 p hp).1)]; exact h2, by rw [put_ne (Ne.symm (n.2 p hp).2)]; exact h3⟩⟩
theorem Hd.add (h : Hd A S t ps) {L : List W} (hL : ∀ w ∈ L, ShW 5 w) (na : ¬ A a) (nb : ¬ A b) (ea : S a = some (.lst L)) (eb : S b = some (.lst L)) (ta : a ≠ t) (tb : b ≠ t) :
    Hd A (M3.put S t (.lst ((ps.map fun p => W.tup [.ref p.1, .ref p.2]) ++ [.tup [.ref a, .ref b]]))) t (ps ++ [(a, b)]) := by
  refine ⟨by rw [put_same, List.map_append]; rfl, h.nt, fun p hp => ?_, fun p hp => ?_⟩
  · rcases List.mem_append.mp hp with hp | hp
    · exact h.np p hp
    · cases List.mem_singleton.mp hp
      exact ⟨na, nb, ta, tb⟩
  · rcases List.mem_append.mp hp with hp | hp
    · obtain ⟨n1, n2, n3, n4⟩ := h.np p hp
      obtain ⟨L, h1, h2, h3⟩ := h.eq p hp
      exact ⟨L, h1, by rw [put_ne n3]; exact h2, by rw [put_ne n4]; exact h3⟩
    · cases List.mem_singleton.mp hp
      exact ⟨L, hL, by rw [put_ne ta]; exact ea, by rw [put_ne tb]; exact eb⟩
end
theorem JM.upd {cl : Nat → Addr} {S0 S S' : Sto} {aP aS : PR → Addr} {s gd p : Addr} {nw nw2 : Int} {P P2 : PS} {d d2 : Int → Nat} {H : Shs} {T : List Gr} {F E : Fp} (j : JM cl S0 S aP aS s gd nw P d nw2 P2 d2 H T F E) (ow : Own (fun q => q = p) S (fun q => q = p) S') (hp : ¬ f4 aP aS P P2 F E p) (h0 : S0 p = none) : JM cl S0 S' aP aS s gd nw P d nw2 P2 d2 H T F E := by
  have n1 : ∀ q, P.fp aP q → ¬ q = p := fun q h e => hp (.inl (e ▸ h))
  have n2 : ∀ q, P2.fp aS q → ¬ q = p := fun q h e => hp (.inr (.inl (e ▸ h)))
  have n3 : ∀ q, F q → ¬ q = p := fun q h e => hp (.inr (.inr (.inl (e ▸ h))))
  have n4 : ∀ q, E q → ¬ q = p := fun q h e => hp (.inr (.inr (.inr (e ▸ h))))
  exact ⟨fun q o e => ow.fr q o (fun z => by rw [z, h0] at e; cases e) (j.sub _ _ e), j.pn.ownP ow n1, j.st.ownP ow n2, j.sh.own ow n3, j.gr.own ow n4, j.wf, j.wf2, j.gok, j.tok, j.pS, j.pF, j.pE, j.sF, j.sE, j.fE, j.z0, j.z1, j.z2, j.z3⟩
def N_law_written : List Str := ["grids", "facts", "lists", "following", "rows", "n", "one", "row", "pane", "k", "parent"]
def ir_law_written : ISs := .cons (.set 4 (.mat (.dsp (.cons (.bin .add (.bin .add (.bin .add (.cst (.str "next ")) (.strI (.len (.var 0)))) (.cst (.str " "))) (.strI (.var 3))) .nil)))) (.cons (.for (.nm 5) (.rng (.len (.var 0))) (.cons (.exp (.app (.var 4) (.bin .add (.cst (.str "sheet ")) (.join (.cst (.str " ")) (.t (.comp (.strI (.var 6)) (.nm 6) (.lst (.t (.dsp (.cons (.var 5) (.cons (.len (.idx (.idx (.var 0) (.var 5)) (.cst (.int 0)))) (.cons (.len (.idx (.var 0) (.var 5))) .nil)))))) [6])))))) (.cons (.exp (.ext (.var 4) (.t (.comp (.bin .add (.cst (.str "|")) (.join (.cst (.str "")) (.of (.var 7)))) (.nm 7) (.lst (.of (.idx (.var 0) (.var 5)))) [7])))) .nil))) (.cons (.for (.nm 8) (.lst (.t (.srtd (.var 1)))) (.cons (.set 6 (.mat (.comp (.strI (.var 9)) (.nm 9) (.lst (.t (.slc (.of (.idx (.var 1) (.var 8))) (.none) (.some (.cst (.int 8)))))) [9]))) (.cons (.set 7 (.mat (.dsp (.cons (.cst (.str "pane")) (.cons (.strI (.var 8)) (.cons (.cst (.str "in")) (.cons (.idx (.var 6) (.cst (.int 0))) (.cons (.cst (.str "sheet")) (.cons (.idx (.var 6) (.cst (.int 1))) (.cons (.cst (.str "at")) (.cons (.idx (.var 6) (.cst (.int 2))) (.cons (.idx (.var 6) (.cst (.int 3))) (.cons (.cst (.str "size")) (.cons (.idx (.var 6) (.cst (.int 4))) (.cons (.idx (.var 6) (.cst (.int 5))) (.cons (.cst (.str "from")) .nil)))))))))))))))) (.cons (.exp (.app (.var 4) (.join (.cst (.str " ")) (.t (.cat (.of (.var 7)) (.t (.dsp (.cons (.idx (.var 6) (.cst (.int 6))) (.cons (.idx (.var 6) (.cst (.int 7))) (.cons (.idl (.t (.dsp (.cons (.cst (.str "shown")) (.cons (.cst (.str "hidden")) .nil)))) (.intE (.idx (.idx (.var 1) (.var 8)) (.cst (.int 8))))) .nil)))))))))) .nil)))) (.cons (.for (.nm 10) (.lst (.t (.cat (.t (.dsp (.cons (.cst (.int 0)) .nil))) (.t (.srtd (.var 1)))))) (.cons (.iff (.eql false (.of (.dget (.var 2) (.var 10) (.mat (.dsp (.nil))))) (.t (.dsp (.nil)))) (.cons (.exp (.app (.var 4) (.bin .add (.cst (.str "order ")) (.join (.cst (.str " ")) (.t (.comp (.strI (.var 6)) (.nm 6) (.lst (.t (.cat (.t (.dsp (.cons (.var 10) .nil))) (.of (.idx (.var 2) (.var 10)))))) [6])))))) .nil) (.nil)) .nil)) (.cons (.ret (.bin .add (.join (.cst (.str "\n")) (.of (.var 4))) (.cst (.str "\n")))) .nil))))
def ir_law_written_t1 : ISs := .cons (.for (.nm 5) (.rng (.len (.var 0))) (.cons (.exp (.app (.var 4) (.bin .add (.cst (.str "sheet ")) (.join (.cst (.str " ")) (.t (.comp (.strI (.var 6)) (.nm 6) (.lst (.t (.dsp (.cons (.var 5) (.cons (.len (.idx (.idx (.var 0) (.var 5)) (.cst (.int 0)))) (.cons (.len (.idx (.var 0) (.var 5))) .nil)))))) [6])))))) (.cons (.exp (.ext (.var 4) (.t (.comp (.bin .add (.cst (.str "|")) (.join (.cst (.str "")) (.of (.var 7)))) (.nm 7) (.lst (.of (.idx (.var 0) (.var 5)))) [7])))) .nil))) (.cons (.for (.nm 8) (.lst (.t (.srtd (.var 1)))) (.cons (.set 6 (.mat (.comp (.strI (.var 9)) (.nm 9) (.lst (.t (.slc (.of (.idx (.var 1) (.var 8))) (.none) (.some (.cst (.int 8)))))) [9]))) (.cons (.set 7 (.mat (.dsp (.cons (.cst (.str "pane")) (.cons (.strI (.var 8)) (.cons (.cst (.str "in")) (.cons (.idx (.var 6) (.cst (.int 0))) (.cons (.cst (.str "sheet")) (.cons (.idx (.var 6) (.cst (.int 1))) (.cons (.cst (.str "at")) (.cons (.idx (.var 6) (.cst (.int 2))) (.cons (.idx (.var 6) (.cst (.int 3))) (.cons (.cst (.str "size")) (.cons (.idx (.var 6) (.cst (.int 4))) (.cons (.idx (.var 6) (.cst (.int 5))) (.cons (.cst (.str "from")) .nil)))))))))))))))) (.cons (.exp (.app (.var 4) (.join (.cst (.str " ")) (.t (.cat (.of (.var 7)) (.t (.dsp (.cons (.idx (.var 6) (.cst (.int 6))) (.cons (.idx (.var 6) (.cst (.int 7))) (.cons (.idl (.t (.dsp (.cons (.cst (.str "shown")) (.cons (.cst (.str "hidden")) .nil)))) (.intE (.idx (.idx (.var 1) (.var 8)) (.cst (.int 8))))) .nil)))))))))) .nil)))) (.cons (.for (.nm 10) (.lst (.t (.cat (.t (.dsp (.cons (.cst (.int 0)) .nil))) (.t (.srtd (.var 1)))))) (.cons (.iff (.eql false (.of (.dget (.var 2) (.var 10) (.mat (.dsp (.nil))))) (.t (.dsp (.nil)))) (.cons (.exp (.app (.var 4) (.bin .add (.cst (.str "order ")) (.join (.cst (.str " ")) (.t (.comp (.strI (.var 6)) (.nm 6) (.lst (.t (.cat (.t (.dsp (.cons (.var 10) .nil))) (.of (.idx (.var 2) (.var 10)))))) [6])))))) .nil) (.nil)) .nil)) (.cons (.ret (.bin .add (.join (.cst (.str "\n")) (.of (.var 4))) (.cst (.str "\n")))) .nil)))
def ir_law_written_t2 : ISs := .cons (.for (.nm 8) (.lst (.t (.srtd (.var 1)))) (.cons (.set 6 (.mat (.comp (.strI (.var 9)) (.nm 9) (.lst (.t (.slc (.of (.idx (.var 1) (.var 8))) (.none) (.some (.cst (.int 8)))))) [9]))) (.cons (.set 7 (.mat (.dsp (.cons (.cst (.str "pane")) (.cons (.strI (.var 8)) (.cons (.cst (.str "in")) (.cons (.idx (.var 6) (.cst (.int 0))) (.cons (.cst (.str "sheet")) (.cons (.idx (.var 6) (.cst (.int 1))) (.cons (.cst (.str "at")) (.cons (.idx (.var 6) (.cst (.int 2))) (.cons (.idx (.var 6) (.cst (.int 3))) (.cons (.cst (.str "size")) (.cons (.idx (.var 6) (.cst (.int 4))) (.cons (.idx (.var 6) (.cst (.int 5))) (.cons (.cst (.str "from")) .nil)))))))))))))))) (.cons (.exp (.app (.var 4) (.join (.cst (.str " ")) (.t (.cat (.of (.var 7)) (.t (.dsp (.cons (.idx (.var 6) (.cst (.int 6))) (.cons (.idx (.var 6) (.cst (.int 7))) (.cons (.idl (.t (.dsp (.cons (.cst (.str "shown")) (.cons (.cst (.str "hidden")) .nil)))) (.intE (.idx (.idx (.var 1) (.var 8)) (.cst (.int 8))))) .nil)))))))))) .nil)))) (.cons (.for (.nm 10) (.lst (.t (.cat (.t (.dsp (.cons (.cst (.int 0)) .nil))) (.t (.srtd (.var 1)))))) (.cons (.iff (.eql false (.of (.dget (.var 2) (.var 10) (.mat (.dsp (.nil))))) (.t (.dsp (.nil)))) (.cons (.exp (.app (.var 4) (.bin .add (.cst (.str "order ")) (.join (.cst (.str " ")) (.t (.comp (.strI (.var 6)) (.nm 6) (.lst (.t (.cat (.t (.dsp (.cons (.var 10) .nil))) (.of (.idx (.var 2) (.var 10)))))) [6])))))) .nil) (.nil)) .nil)) (.cons (.ret (.bin .add (.join (.cst (.str "\n")) (.of (.var 4))) (.cst (.str "\n")))) .nil))
def ir_law_written_t3 : ISs := .cons (.for (.nm 10) (.lst (.t (.cat (.t (.dsp (.cons (.cst (.int 0)) .nil))) (.t (.srtd (.var 1)))))) (.cons (.iff (.eql false (.of (.dget (.var 2) (.var 10) (.mat (.dsp (.nil))))) (.t (.dsp (.nil)))) (.cons (.exp (.app (.var 4) (.bin .add (.cst (.str "order ")) (.join (.cst (.str " ")) (.t (.comp (.strI (.var 6)) (.nm 6) (.lst (.t (.cat (.t (.dsp (.cons (.var 10) .nil))) (.of (.idx (.var 2) (.var 10)))))) [6])))))) .nil) (.nil)) .nil)) (.cons (.ret (.bin .add (.join (.cst (.str "\n")) (.of (.var 4))) (.cst (.str "\n")))) .nil)
theorem sheet_jn (n : Nat) (g : Gr) : "sheet " ++ jn " " [stI n, stI (gw g), stI g.length] = "sheet " ++ stI n ++ " " ++ stI (gw g) ++ " " ++ stI g.length := by
  rw [jn_cons, jn_cons, jn_one, str_assoc, str_assoc, str_assoc, str_assoc, str_assoc, str_assoc]
theorem dget_dk {a : Addr} {ks : List Int} {f : Int → W} {k : Int} {z : W} {S : Sto} {Q : W → Prop} (h : S a = some (.dk false (ks.map fun k => ((Sum.inl k : Key), f k)))) (hk : k ∈ ks) (hq : Q (f k)) : dgetW (.ref a) (.int k) z S Q := by
  unfold dgetW
  dsimp only
  rw [h]
  show Q ((valD (ks.map fun k => ((Sum.inl k : Key), f k)) (Sum.inl k)).getD z)
  rw [valD_int, if_pos hk]
  exact hq
def sp_law_written (cl : Nat → Addr) : MSp := fun ws S Q _ => ∃ (aS : PR → Addr) (nw' : Int) (gd : Addr) (P : PS) (nw : Int) (d : Int → Nat) (gs : List Gr) (E : Fp), ws = [.ref gd, .ref (aS .facts), .ref (aS .lists), .int (nw + 1)] ∧ PLay S (mH nw' gd) P aS ∧ GrsAt cl S gd gs E ∧ WrP P nw d gs ∧ ∀ S', Sub S S' → Q (.str (shText gs P nw)) S'
theorem writ3 {G : Gs} {D : MEnds} {S0 S : Sto} {aS : PR → Addr} {p gd : Addr} {nw nw' : Int} {P : PS} {d : Int → Nat} {gs : List Gr} {a0 a3 a5 a6 a7 a8 a9 a10 : Option W}
    (l : PLay S0 (mH nw' gd) P aS) (hp0 : S0 p = none) (sb0 : Sub S0 S) (wr : WrP P nw d gs) (hp : S p = some (.lst ((shNext gs.length nw :: shSheets gs gs.length ++ P.kf.map fun k => shPane k (P.f k)).map W.str)))
    (hq : ∀ S', Sub S0 S' → D.rt (.str (shText gs P nw)) S') : wpSs G ir_law_written_t3 D [a0, some (.ref (aS .facts)), some (.ref (aS .lists)), a3, some (.ref p), a5, a6, a7, a8, a9, a10] S := by
  have sz : ∀ {n : Nat}, n ≤ 1000 → n ≤ sizeLine := fun h => by rw [sizeLine_val]; omega
  have w := wr.wf
  have kl := wr.kl
  have g200 := wr.g
  have hsl := shSheets_len wr.gok (Nat.le_refl gs.length)
  have l1 := l.subP sb0
  unfold ir_law_written_t3
  walk_at "wp"
  simp only [wt_srtd2]
  walk_at "wp"
  refine ⟨sz (by decide), srt_keys l1.facts w.inc (by omega) ⟨nofun, nofun, by rw [List.length_map, sizeLine_val]; omega, ?_⟩⟩
  refine ForG.map (0 :: P.kf) W.int rfl (fun dn r σ' S' => ∃ b6 b10 : Option W, Sub S0 S' ∧ S' p = some (.lst (((shNext gs.length nw :: shSheets gs gs.length ++ P.kf.map fun k => shPane k (P.f k)) ++ dn.flatMap (shOrder P)).map W.str)) ∧ σ' = [a0, some (.ref (aS .facts)), some (.ref (aS .lists)), a3, some (.ref p), a5, b6, a7, a8, a9, b10]) _ (Sub.refl _)
    ⟨_, _, sb0, by rw [List.flatMap_nil, List.append_nil]; exact hp, rfl⟩ ?_ ?_
  · rintro dn j r σ' S' hsp ⟨b6, b10, sb, hS, rfl⟩
    refine ⟨trivial, ?_⟩
    have hj : j ∈ P.kl := by rw [w.kl, hsp]; simp
    have l2 := l.subP sb
    have hdn : dn.length ≤ 63 := by
      have := congrArg List.length hsp
      rw [List.length_append, List.length_cons, List.length_cons] at this
      omega
    have hol := ords_len P dn
    walk_at "wp"
    refine ⟨⟨_, rfl, .inl ⟨_, _, l2.lists⟩⟩, Nat.zero_le _, fun q hq0 => ?_⟩
    have sb2 := sb.trans (Sub.put hq0 (o := .lst []))
    have hS2 := Sub.put hq0 (o := .lst []) _ _ hS
    generalize put S' q (.lst []) = S2 at *
    have l3 := l.subP sb2
    refine dget_dk l3.lists hj ?_
    have e2 := l3.list (k := j) hj
    dsimp only
    rw [e2]
    dsimp only
    refine ⟨Nat.zero_le _, nofun, nofun, rfl, EncOk.eqsOk (d := 0) EncOk.int (by decide) (P.c j), EncOk.eqsOk (d := 0) EncOk.int (by decide) [], ?_⟩
    rw [show W.eqvs ((P.c j).map W.int) [] = decide (P.c j = []) from EncOk.eqvs (d := 0) EncOk.int (P.c j) []]
    have hcl := wr.clen hj
    by_cases c0 : P.c j = []
    · rw [if_neg (by simp [c0])]
      have key : ((shNext gs.length nw :: shSheets gs gs.length ++ P.kf.map fun k => shPane k (P.f k)) ++ dn.flatMap (shOrder P)) = ((shNext gs.length nw :: shSheets gs gs.length ++ P.kf.map fun k => shPane k (P.f k)) ++ (dn ++ [j]).flatMap (shOrder P)) := by
        rw [List.flatMap_append, List.flatMap_singleton]
        unfold shOrder
        rw [if_pos c0, List.append_nil]
      exact ⟨_, _, sb2, hS2.trans (congrArg (fun l : List Str => some (MO.lst (l.map W.str))) key), rfl⟩
    · rw [if_pos (by simp [c0]), hS2]
      refine ⟨trivial, ⟨_, rfl⟩, sz (by decide), ?_⟩
      have e3 : idxW (.ref (aS .lists)) (.int j) S2 = some (.ref (aS (.list j))) := by rw [idx_dk l3.lists, if_pos hj]
      rw [idx_ref] at e3
      rw [e3]
      dsimp only
      rw [e2]
      dsimp only
      refine ⟨nofun, nofun, by rw [List.length_map, sizeLine_val]; omega, ?_⟩
      refine CompG.map (j :: P.c j) W.int (fun k => .str (stI k)) rfl (by rw [List.length_cons]; omega) ?_ (fun k hk Q' hq' => ?_) ?_
      · trivial
      · have hk' : k ∈ P.kl := by
          rcases List.mem_cons.mp hk with rfl | hk
          · exact hj
          · rw [w.kl]; exact List.mem_cons_of_mem _ ((w.ch j hj k).mp hk).1
        walk_at "wp"
        exact strW_int (wr.num hk').1 (wr.num hk').2 hq'
      · have hd := wr.ord hj
        rw [show (j :: P.c j).map (fun k => W.str (stI k)) = ((j :: P.c j).map stI).map W.str by rw [List.map_map]; rfl]
        have ej := (jn_ok (TkO.lit (n := 1) (s := " ") (by decide +kernel)) hd)
        rw [List.length_map, List.length_cons] at ej
        refine joinW_jn hd (by rw [List.length_map, List.length_cons]; show (72 + 1) * _ ≤ _; omega) (bin_addS' (TkO.lit (n := 6) (by decide +kernel)) ej (by omega) ?_)
        rw [hS2]
        refine ⟨?_, _, _, sb2.upd hp0, ?_, rfl⟩
        · show (List.map W.str ((shNext gs.length nw :: shSheets gs gs.length ++ P.kf.map fun k => shPane k (P.f k)) ++ dn.flatMap (shOrder P))).length < _
          rw [List.length_map, List.length_append, List.length_append, List.length_cons, List.length_map, sizeLine_val]
          omega
        · have key : ((shNext gs.length nw :: shSheets gs gs.length ++ P.kf.map fun k => shPane k (P.f k)) ++ dn.flatMap (shOrder P)).map W.str ++ [W.str ("order " ++ jn " " ((j :: P.c j).map stI))] = ((shNext gs.length nw :: shSheets gs gs.length ++ P.kf.map fun k => shPane k (P.f k)) ++ (dn ++ [j]).flatMap (shOrder P)).map W.str := by
            rw [List.flatMap_append, List.flatMap_singleton, ← List.append_assoc, List.map_append (l₂ := shOrder P j)]
            unfold shOrder
            rw [if_neg c0]
            rfl
          exact congrArg (fun l => some (MO.lst l)) key
  · rintro σ' S' ⟨b6, b10, sb, hS, rfl⟩
    refine ⟨trivial, ?_⟩
    walk_at "wp"
    refine ⟨⟨_, rfl⟩, ?_⟩
    rw [hS]
    exact text_end wr (hq S' sb)
theorem writ2 {G : Gs} {D : MEnds} {S0 S : Sto} {aS : PR → Addr} {p gd : Addr} {nw nw' : Int} {P : PS} {d : Int → Nat} {gs : List Gr} {a0 a3 a5 a6 a7 a8 a9 a10 : Option W}
    (l : PLay S0 (mH nw' gd) P aS) (hp0 : S0 p = none) (sb0 : Sub S0 S) (wr : WrP P nw d gs) (hp : S p = some (.lst ((shNext gs.length nw :: shSheets gs gs.length).map W.str)))
    (hq : ∀ S', Sub S0 S' → D.rt (.str (shText gs P nw)) S') : wpSs G ir_law_written_t2 D [a0, some (.ref (aS .facts)), some (.ref (aS .lists)), a3, some (.ref p), a5, a6, a7, a8, a9, a10] S := by
  have sz : ∀ {n : Nat}, n ≤ 1000 → n ≤ sizeLine := fun h => by rw [sizeLine_val]; omega
  have w := wr.wf
  have kl := wr.kl
  have g200 := wr.g
  have hsl := shSheets_len wr.gok (Nat.le_refl gs.length)
  have l1 := l.subP sb0
  unfold ir_law_written_t2
  show wpSs G (.cons _ ir_law_written_t3) _ _ _
  generalize hR : ir_law_written_t3 = R
  walk_at "wp"
  simp only [wt_srtd2]
  walk_at "wp"
  refine srt_keys l1.facts w.inc (by omega) ?_
  refine ForG.map P.kf W.int rfl (fun dn r σ' S' => ∃ b6 b7 b8 b9 : Option W, Sub S0 S' ∧ S' p = some (.lst ((shNext gs.length nw :: shSheets gs gs.length ++ dn.map fun k => shPane k (P.f k)).map W.str)) ∧ σ' = [a0, some (.ref (aS .facts)), some (.ref (aS .lists)), a3, some (.ref p), a5, b6, b7, b8, b9, a10]) _ (Sub.refl _)
    ⟨_, _, _, _, sb0, by rw [List.map_nil, List.append_nil]; exact hp, rfl⟩ ?_ ?_
  · rintro dn j r σ' S' hsp ⟨b6, b7, b8, b9, sb, hS, rfl⟩
    refine ⟨trivial, ?_⟩
    have hj : j ∈ P.kf := by rw [hsp]; simp
    have l2 := l.subP sb
    have hdn : dn.length ≤ 62 := by
      have := congrArg List.length hsp
      rw [List.length_append, List.length_cons] at this
      omega
    have wb := wr.wr hj
    walk_at "wp"
    have e3 : idxW (.ref (aS .facts)) (.int j) S' = some (.ref (aS (.fact j))) := by rw [idx_dk l2.facts, if_pos hj]
    rw [idx_ref] at e3
    rw [e3]
    dsimp only
    rw [l2.fact hj]
    dsimp only
    rw [show cutW (fcL (P.f j)) none (some 8) = [(P.f j).par, (P.f j).sh, (P.f j).x, (P.f j).y, (P.f j).w, (P.f j).h, (P.f j).sx, (P.f j).sy].map W.int from rfl]
    obtain ⟨⟨⟨b1, b2⟩, ⟨b3, b4⟩, ⟨b5, b6'⟩, ⟨b7', b8'⟩, ⟨b9', b10⟩, ⟨b11, b12⟩⟩, k0, k1, p0, p1, s0, s1⟩ := id wb
    refine ⟨nofun, rfl, ?_⟩
    refine CompG.map _ W.int (fun k => .str (stI k)) rfl (by show 8 ≤ _; decide) trivial (fun k hk Q' hq' => ?_) ?_
    · walk_at "wp"
      simp only [List.mem_cons, List.not_mem_nil, or_false] at hk
      rcases hk with rfl | rfl | rfl | rfl | rfl | rfl | rfl | rfl <;> exact strW_int (by omega) (by omega) hq'
    intro q1 hq1
    refine strW_int (by omega) (by omega) ?_
    show 13 ≤ sizeLine ∧ _
    refine ⟨sz (by decide), fun q2 hq2 => ?_⟩
    dsimp only at hq2 ⊢
    have s1 := Sub.put hq1 (o := .lst ([(P.f j).par, (P.f j).sh, (P.f j).x, (P.f j).y, (P.f j).w, (P.f j).h, (P.f j).sx, (P.f j).sy].map fun k => W.str (stI k)))
    have e1 : put S' q1 (.lst ([(P.f j).par, (P.f j).sh, (P.f j).x, (P.f j).y, (P.f j).w, (P.f j).h, (P.f j).sx, (P.f j).sy].map fun k => W.str (stI k))) q1 = some (.lst ([(P.f j).par, (P.f j).sh, (P.f j).x, (P.f j).y, (P.f j).w, (P.f j).h, (P.f j).sx, (P.f j).sy].map fun k => W.str (stI k))) := put_same
    generalize put S' q1 (.lst ([(P.f j).par, (P.f j).sh, (P.f j).x, (P.f j).y, (P.f j).w, (P.f j).h, (P.f j).sx, (P.f j).sy].map fun k => W.str (stI k))) = S5 at *
    have s2 := Sub.put hq2 (o := .lst [.str "pane", .str (stI j), .str "in", .str (stI (P.f j).par), .str "sheet", .str (stI (P.f j).sh), .str "at", .str (stI (P.f j).x), .str (stI (P.f j).y), .str "size", .str (stI (P.f j).w), .str (stI (P.f j).h), .str "from"])
    have e2 : put S5 q2 (.lst [.str "pane", .str (stI j), .str "in", .str (stI (P.f j).par), .str "sheet", .str (stI (P.f j).sh), .str "at", .str (stI (P.f j).x), .str (stI (P.f j).y), .str "size", .str (stI (P.f j).w), .str (stI (P.f j).h), .str "from"]) q2 = some (.lst [.str "pane", .str (stI j), .str "in", .str (stI (P.f j).par), .str "sheet", .str (stI (P.f j).sh), .str "at", .str (stI (P.f j).x), .str (stI (P.f j).y), .str "size", .str (stI (P.f j).w), .str (stI (P.f j).h), .str "from"]) := put_same
    generalize put S5 q2 (.lst [.str "pane", .str (stI j), .str "in", .str (stI (P.f j).par), .str "sheet", .str (stI (P.f j).sh), .str "at", .str (stI (P.f j).x), .str (stI (P.f j).y), .str "size", .str (stI (P.f j).w), .str (stI (P.f j).h), .str "from"]) = S6 at *
    have sb6 := (sb.trans s1).trans s2
    have l6 := l.subP sb6
    have h6 : S6 p = _ := s2 _ _ (s1 _ _ hS)
    have e3 : idxW (.ref (aS .facts)) (.int j) S6 = some (.ref (aS (.fact j))) := by rw [idx_dk l6.facts, if_pos hj]
    rw [idx_ref] at e3
    rw [h6, s2 _ _ e1, e3]
    refine ⟨trivial, ⟨_, rfl⟩, ?_⟩
    dsimp only
    rw [show atI ([(P.f j).par, (P.f j).sh, (P.f j).x, (P.f j).y, (P.f j).w, (P.f j).h, (P.f j).sx, (P.f j).sy].map fun k => W.str (stI k)) 6 = some (.str (stI (P.f j).sx)) from rfl, show atI ([(P.f j).par, (P.f j).sh, (P.f j).x, (P.f j).y, (P.f j).w, (P.f j).h, (P.f j).sx, (P.f j).sy].map fun k => W.str (stI k)) 7 = some (.str (stI (P.f j).sy)) from rfl]
    dsimp only
    refine ⟨sz (by decide), ?_⟩
    rw [idx_ref, l6.fact hj]
    dsimp only
    rw [show atI (fcL (P.f j)) 8 = some (.bl (P.f j).hid) from rfl]
    dsimp only
    have fin : joinW (.str " ") ((wdsP j (P.f j)).map W.str) fun w => ((shNext gs.length nw :: shSheets gs gs.length ++ dn.map fun k => shPane k (P.f k)).map W.str).length < sizeLine ∧ ∃ c6 c7 c8 c9 : Option W, Sub S0 (put S6 p (.lst ((shNext gs.length nw :: shSheets gs gs.length ++ dn.map fun k => shPane k (P.f k)).map W.str ++ [w]))) ∧ some (MO.lst ((shNext gs.length nw :: shSheets gs gs.length ++ dn.map fun k => shPane k (P.f k)).map W.str ++ [w])) = some (.lst ((shNext gs.length nw :: shSheets gs gs.length ++ (dn ++ [j]).map fun k => shPane k (P.f k)).map W.str)) ∧ [a0, some (.ref (aS .facts)), some (.ref (aS .lists)), a3, some (.ref p), a5, some (.ref q1), some (.ref q2), some (.int j), b9, a10] = [a0, some (.ref (aS .facts)), some (.ref (aS .lists)), a3, some (.ref p), a5, c6, c7, c8, c9, a10] := by
      refine joinW_jn (wds_ok wb) (by show (72 + 1) * 16 ≤ _; decide) ⟨?_, _, _, _, _, sb6.upd hp0, ?_, rfl⟩
      · rw [List.length_map, List.length_append, List.length_cons, List.length_map, sizeLine_val]; omega
      · rw [List.map_append (f := fun k => shPane k (P.f k)), ← List.append_assoc, List.map_append (f := W.str) (l₂ := [j].map fun k => shPane k (P.f k))]
        rfl
    cases hh : (P.f j).hid with
    | true =>
      unfold wdsP at fin
      rw [hh] at fin
      exact ⟨sz (by decide), nofun, nofun, sz (by decide), fin⟩
    | false =>
      unfold wdsP at fin
      rw [hh] at fin
      exact ⟨sz (by decide), nofun, nofun, sz (by decide), fin⟩
  · rintro σ' S' ⟨b6, b7, b8, b9, sb, hS, rfl⟩
    refine ⟨trivial, ?_⟩
    rw [← hR]
    exact writ3 l hp0 sb wr hS hq
theorem writ1 {G : Gs} {D : MEnds} {S0 S : Sto} {aS : PR → Addr} {p gd : Addr} {nw nw' : Int} {P : PS} {d : Int → Nat} {gs : List Gr} {E : Fp} {a3 a5 a6 a7 a8 a9 a10 : Option W}
    (l : PLay S0 (mH nw' gd) P aS) (gr : GrsAt G.cl S0 gd gs E) (hp0 : S0 p = none) (sb0 : Sub S0 S) (wr : WrP P nw d gs) (hp : S p = some (.lst [W.str (shNext gs.length nw)]))
    (hq : ∀ S', Sub S0 S' → D.rt (.str (shText gs P nw)) S') : wpSs G ir_law_written_t1 D [some (.ref gd), some (.ref (aS .facts)), some (.ref (aS .lists)), a3, some (.ref p), a5, a6, a7, a8, a9, a10] S := by
  have sz : ∀ {n : Nat}, n ≤ 1000 → n ≤ sizeLine := fun h => by rw [sizeLine_val]; omega
  have g200 := wr.g
  obtain ⟨_, gs', eE, rd⟩ := gr.read
  unfold ir_law_written_t1
  show wpSs G (.cons _ ir_law_written_t2) _ _ _
  generalize hR : ir_law_written_t2 = R
  walk_at "wp"
  rw [sb0 _ _ eE]
  dsimp only
  rw [List.length_map, List.length_range]
  refine ⟨⟨by omega, by omega⟩, ?_⟩
  refine ForG.by (fun k σ' S' => ∃ b5 b6 b7 : Option W, Sub S0 S' ∧ S' p = some (.lst ((shNext gs.length nw :: shSheets gs k).map W.str)) ∧ σ' = [some (.ref gd), some (.ref (aS .facts)), some (.ref (aS .lists)), a3, some (.ref p), b5, b6, b7, a8, a9, a10]) _ (Sub.refl _) ⟨_, _, _, sb0, hp, rfl⟩ ?_ ?_
  · rintro k xx σ' S' hx' ⟨b5, b6, b7, sb, hS, rfl⟩
    obtain ⟨hk, rfl⟩ := rng_at hx'
    refine ⟨trivial, ?_⟩
    have hk' : k < gs.length := by simpa using hk
    have hg : gs[k]? = some (gs.getD k []) := by rw [getD_at hk']; exact List.getElem?_eq_getElem hk'
    have gk := wr.gok _ (getD_mem hk' (d := []))
    have g1 := gk.h1
    have g2 := gk.w1
    have g0 := gk.h0
    have hsl := shSheets_len wr.gok (n := k) (by omega)
    obtain ⟨_, ra, ga0, _, _⟩ := rd k _ hg
    have ga := ga0.sub sb
    generalize hgd : gs.getD k [] = g at *
    have e0 : S' gd = some (.lst ((List.range gs.length).map fun i => W.ref (gs' i))) := sb _ _ eE
    have hi0 : idxW (.ref gd) (.int (0 + (k : Int))) S' = some (.ref (gs' k)) := by rw [Int.zero_add, idx_ref, e0]; exact atI_range hk'
    have h00 : idxW (.ref (gs' k)) (.int 0) S' = some (.ref (ra 0)) := by rw [idx_ref, ga.top]; exact atI_range (i := 0) (by omega)
    have hl0 : lenW (.ref (ra 0)) S' = some (gw g) := by
      rw [len_ref, ga.row 0 (by omega)]
      dsimp only
      rw [List.length_map, gk.wr _ (getD_mem (by omega))]
    have hlg : lenW (.ref (gs' k)) S' = some g.length := by rw [len_ref, ga.top]; dsimp only; rw [List.length_map, List.length_range]
    walk_at "wp"
    have hi1 := hi0
    rw [idx_ref] at hi1
    simp only [hi1, h00, hl0, hlg, hS]
    refine ⟨trivial, ⟨_, rfl⟩, sz (by decide), ?_⟩
    rw [Int.zero_add]
    refine CompG.map [(k : Int), (gw g : Int), (g.length : Int)] W.int (fun k => .str (stI k)) rfl (by show 3 ≤ _; decide) ?_ (fun z hz Q' hq' => ?_) ?_
    · trivial
    · walk_at "wp"
      simp only [List.mem_cons, List.not_mem_nil, or_false] at hz
      rcases hz with rfl | rfl | rfl <;> exact strW_int (by omega) (by omega) hq'
    have i1 : TkO 72 (stI (k : Int)) := stI_ok (by omega) (by omega)
    have i2 : TkO 72 (stI (gw g : Int)) := stI_ok (by omega) (by omega)
    have i3 : TkO 72 (stI (g.length : Int)) := stI_ok (by omega) (by omega)
    have ht : ∀ s ∈ [stI k, stI (gw g), stI g.length], TkO 72 s := fun s hs => by
      simp only [List.mem_cons, List.not_mem_nil, or_false] at hs
      rcases hs with rfl | rfl | rfl <;> assumption
    refine joinW_jn (l := [stI k, stI (gw g), stI g.length]) ht (by show (72 + 1) * 3 ≤ _; decide) (bin_addS' (TkO.lit (n := 6) (by decide +kernel)) (jn_ok (TkO.lit (n := 1) (s := " ") (by decide +kernel)) ht) (by show 6 + (72 + 1) * 3 ≤ _; decide) ?_)
    rw [hS, sheet_jn]
    refine ⟨by rw [List.length_map, List.length_cons, sizeLine_val]; omega, ?_⟩
    have sb2 := sb.upd hp0 (o := .lst ((shNext gs.length nw :: shSheets gs k).map W.str ++ [W.str ("sheet " ++ stI k ++ " " ++ stI (gw g) ++ " " ++ stI g.length)]))
    have e2 : put S' p (.lst ((shNext gs.length nw :: shSheets gs k).map W.str ++ [W.str ("sheet " ++ stI k ++ " " ++ stI (gw g) ++ " " ++ stI g.length)])) p = some (.lst ((shNext gs.length nw :: shSheets gs k).map W.str ++ [W.str ("sheet " ++ stI k ++ " " ++ stI (gw g) ++ " " ++ stI g.length)])) := put_same
    have ne : ∀ z o, S0 z = some o → put S' p (.lst ((shNext gs.length nw :: shSheets gs k).map W.str ++ [W.str ("sheet " ++ stI k ++ " " ++ stI (gw g) ++ " " ++ stI g.length)])) z = some o := fun z o e => sb2 z o e
    generalize put S' p (.lst ((shNext gs.length nw :: shSheets gs k).map W.str ++ [W.str ("sheet " ++ stI k ++ " " ++ stI (gw g) ++ " " ++ stI g.length)])) = S3 at *
    have ga3 := ga0.sub sb2
    have hi3 : idxW (.ref gd) (.int (k : Int)) S3 = some (.ref (gs' k)) := by rw [idx_ref, sb2 _ _ eE]; exact atI_range hk'
    rw [idx_ref] at hi3
    rw [hi3]
    dsimp only
    rw [ga3.top]
    dsimp only
    refine CompG.map (List.range g.length) (fun j => W.ref (ra j)) (fun j => .str ("|" ++ txt (g.getD j []))) rfl (by rw [List.length_range]; omega) ga3.top (fun j hj Q' hq' => ?_) ?_
    · have hj' := List.mem_range.mp hj
      have hr : (g.getD j []) ∈ g := getD_mem hj'
      walk_at "wp"
      refine ⟨⟨_, rfl⟩, ?_⟩
      rw [ga3.row j hj']
      dsimp only
      have ht := TkO.of (txt_shaped (gk.sg _ hr))
      have hl := gk.wr _ hr
      rw [txt_len (gk.sg _ hr)] at ht
      exact join_row (gk.sg _ hr) (by omega) (bin_addS' (TkO.lit (n := 1) (by decide +kernel)) ht (by omega) hq')
    · rw [e2]
      refine ⟨by rw [List.length_append, List.length_map, List.length_map, List.length_range, List.length_cons, List.length_singleton, sizeLine_val]; omega, _, _, _, sb2.upd hp0, ?_, rfl⟩
      rw [shSheets_succ, hgd]
      unfold shSheet
      have e5 : (List.range g.length).map (fun j => W.str ("|" ++ txt (g.getD j []))) = (g.map fun r => "|" ++ txt r).map W.str := by
        rw [List.map_map]
        exact range_getD (f := fun r => W.str ("|" ++ txt r))
      rw [e5]
      have key : (shNext gs.length nw :: shSheets gs k).map W.str ++ [W.str ("sheet " ++ stI k ++ " " ++ stI (gw g) ++ " " ++ stI g.length)] ++ (g.map fun r => "|" ++ txt r).map W.str = (shNext gs.length nw :: (shSheets gs k ++ (("sheet " ++ stI k ++ " " ++ stI (gw g) ++ " " ++ stI g.length) :: g.map fun r => "|" ++ txt r))).map W.str := by
        rw [List.append_assoc, ← List.cons_append, List.map_append]
        rfl
      exact congrArg (fun l => some (MO.lst l)) key
  · rintro σ' S' ⟨b5, b6, b7, sb, hS, rfl⟩
    refine ⟨trivial, ?_⟩
    rw [← hR]
    rw [rng_len] at hS
    exact writ2 l hp0 sb wr (by simpa using hS) hq
theorem pf_law_written (G : Gs) (ws : List W) (S : Sto) (Q : WQ) (X : XQ) (h : sp_law_written G.cl ws S Q X) : ws.length = 4 ∧ wpF G 11 ir_law_written ws S Q X := by
  obtain ⟨aS, nw', gd, P, nw, d, gs, E, rfl, l, gr, wr, hq⟩ := h
  refine ⟨rfl, ?_⟩
  have sz : ∀ {n : Nat}, n ≤ 1000 → n ≤ sizeLine := fun h => by rw [sizeLine_val]; omega
  have g200 := wr.g
  have n1 := wr.n1
  have n0 := wr.wf.n0
  obtain ⟨_, gs', eE, rd⟩ := gr.read
  unfold wpF ir_law_written
  show wpSs G (.cons _ ir_law_written_t1) _ _ _
  generalize hR : ir_law_written_t1 = R
  walk_at "wp"
  rw [eE]
  dsimp only
  rw [List.length_map, List.length_range]
  have o1 : TkO 5 "next " := TkO.lit (by decide +kernel)
  have o0 : TkO 1 " " := TkO.lit (by decide +kernel)
  have i1 : TkO 72 (stI (gs.length : Int)) := stI_ok (by omega) (by omega)
  have i2 : TkO 72 (stI (nw + 1)) := stI_ok (by omega) (by omega)
  refine strW_int (by omega) (by omega) (bin_addS' o1 i1 (by decide) (bin_addS' (o1.app i1) o0 (by decide) (strW_int (by omega) (by omega) (bin_addS' ((o1.app i1).app o0) i2 (by decide) ⟨sz (by decide), fun p hp => ?_⟩))))
  rw [← hR]
  exact writ1 l gr hp (Sub.put hp) wr put_same fun S' sb => ⟨_, Sub.refl _, hq S' sb⟩
theorem DS.wr {cl : Nat → Addr} {S0 S : Sto} {aP aS : PR → Addr} {s gd pA mA : Addr} {nw : Int} {P : PS} {d : Int → Nat} {H : Shs} {F E : Fp} {n : Nat} (j : DS cl S0 S aP aS s gd nw P d H F E pA mA n) (hn : n ≤ 64) : WrP P nw d H.gr :=
  ⟨j.jm.wf, j.pb, j.pv, by have := j.nwb; omega, by have := j.g3; omega, j.jm.gok, by have := j.k12; omega⟩
def N_law_v38 : List Str := ["script", "row", "panes", "m", "far", "cell", "r", "found"]
def ir_law_v38 : ISs := .cons (.set 1 (.call 175 (.cons (.idl (.t (.cat (.of (.var 0)) (.t (.dsp (.cons (.cst (.int 0)) .nil))))) (.cst (.int 0))) (.cons (.cst (.int 9)) .nil)))) (.cons (.asg (.tup (.cons (.nm 2) (.cons (.nm 3) .nil))) (.call 177 (.cons (.var 1) .nil))) (.cons (.set 4 (.idl (.t (.dsp (.cons (.cst (.int 0)) (.cons (.cst (.int 0)) (.cons (.cst (.int 10000000000000000000000000000000000000000000000000000000000)) (.cons (.cst (.int (-10000000000000000000000000000000000000000000000000000000000))) .nil)))))) (.bin .mod (.idx (.var 1) (.cst (.int 7))) (.cst (.int 4))))) (.cons (.iff (.cmp .eq (.bin .mod (.idx (.var 1) (.cst (.int 8))) (.cst (.int 8))) (.cst (.int 1))) (.cons (.ret (.cmp .eq (.call 241 (.cons (.make 427 11 (.cons (.make 412 10 (.nil)) .nil)) .nil)) (.cst (.str "next 0 1\n")))) .nil) (.nil)) (.cons (.for (.nm 5) (.lst (.t (.slc (.of (.var 0)) (.some (.cst (.int 1))) (.none)))) (.cons (.set 6 (.call 175 (.cons (.var 5) (.cons (.cst (.int 6)) .nil)))) (.cons (.exp (.call 183 (.cons (.var 2) (.cons (.var 3) (.cons (.var 6) (.cons (.var 4) .nil)))))) (.cons (.iff (.and (.cmp .eq (.bin .mod (.idx (.var 6) (.cst (.int 5))) (.cst (.int 4))) (.cst (.int 0))) (.cmp .ne (.call 241 (.cons (.var 2) .nil)) (.call 242 (.cons (.idx (.var 3) (.cst (.int 3))) (.cons (.idx (.var 3) (.cst (.int 0))) (.cons (.idx (.var 3) (.cst (.int 1))) (.cons (.bin .add (.idx (.var 3) (.cst (.int 2))) (.cst (.int 1))) .nil))))))) (.cons (.ret (.cst (.bl false))) .nil) (.nil)) .nil)))) (.cons (.set 7 (.call 241 (.cons (.var 2) .nil))) (.cons (.ret (.and (.isa (.var 7) "str") (.cmp .eq (.var 7) (.call 242 (.cons (.idx (.var 3) (.cst (.int 3))) (.cons (.idx (.var 3) (.cst (.int 0))) (.cons (.idx (.var 3) (.cst (.int 1))) (.cons (.bin .add (.idx (.var 3) (.cst (.int 2))) (.cst (.int 1))) .nil)))))))) .nil))))))
def ir_law_v38_t4_2 : ISs := .cons (.iff (.and (.cmp .eq (.bin .mod (.idx (.var 6) (.cst (.int 5))) (.cst (.int 4))) (.cst (.int 0))) (.cmp .ne (.call 241 (.cons (.var 2) .nil)) (.call 242 (.cons (.idx (.var 3) (.cst (.int 3))) (.cons (.idx (.var 3) (.cst (.int 0))) (.cons (.idx (.var 3) (.cst (.int 1))) (.cons (.bin .add (.idx (.var 3) (.cst (.int 2))) (.cst (.int 1))) .nil))))))) (.cons (.ret (.cst (.bl false))) .nil) (.nil)) .nil
def ir_law_v38_t5 : ISs := .cons (.set 7 (.call 241 (.cons (.var 2) .nil))) (.cons (.ret (.and (.isa (.var 7) "str") (.cmp .eq (.var 7) (.call 242 (.cons (.idx (.var 3) (.cst (.int 3))) (.cons (.idx (.var 3) (.cst (.int 0))) (.cons (.idx (.var 3) (.cst (.int 1))) (.cons (.bin .add (.idx (.var 3) (.cst (.int 2))) (.cst (.int 1))) .nil)))))))) .nil)
def ir_law_v38_t4 : ISs := .cons (.for (.nm 5) (.lst (.t (.slc (.of (.var 0)) (.some (.cst (.int 1))) (.none)))) (.cons (.set 6 (.call 175 (.cons (.var 5) (.cons (.cst (.int 6)) .nil)))) (.cons (.exp (.call 183 (.cons (.var 2) (.cons (.var 3) (.cons (.var 6) (.cons (.var 4) .nil)))))) (.cons (.iff (.and (.cmp .eq (.bin .mod (.idx (.var 6) (.cst (.int 5))) (.cst (.int 4))) (.cst (.int 0))) (.cmp .ne (.call 241 (.cons (.var 2) .nil)) (.call 242 (.cons (.idx (.var 3) (.cst (.int 3))) (.cons (.idx (.var 3) (.cst (.int 0))) (.cons (.idx (.var 3) (.cst (.int 1))) (.cons (.bin .add (.idx (.var 3) (.cst (.int 2))) (.cst (.int 1))) .nil))))))) (.cons (.ret (.cst (.bl false))) .nil) (.nil)) .nil)))) (.cons (.set 7 (.call 241 (.cons (.var 2) .nil))) (.cons (.ret (.and (.isa (.var 7) "str") (.cmp .eq (.var 7) (.call 242 (.cons (.idx (.var 3) (.cst (.int 3))) (.cons (.idx (.var 3) (.cst (.int 0))) (.cons (.idx (.var 3) (.cst (.int 1))) (.cons (.bin .add (.idx (.var 3) (.cst (.int 2))) (.cst (.int 1))) .nil)))))))) .nil))
theorem txt_eqOk {P : PS} {nw : Int} {d : Int → Nat} {gs : List Gr} (h : WrP P nw d gs) : W.eqOk (.str (shText gs P nw)) := (ShW.str (d := 1) (shText_ok h).shaped).eqOk (by decide)
theorem txt_eqv (s : Str) (h : SeqAt.shaped (W.str s).dat = true) : W.eqv (.str s) (.str s) = true := PySem.SeqAt.eqv_refl _ (SeqAt.canLay_of_shaped h)
theorem v38_ask {G : Gs} (hG241 : G 241 = sp_show_panes G.cl) (hG242 : G 242 = sp_law_written G.cl) {D : MEnds} {S0 S : Sto} {aP aS : PR → Addr} {s gd pA mA ra : Addr} {nw : Int} {P : PS} {d : Int → Nat} {H : Shs} {F E : Fp} {rs : List Int} {n : Nat} {a0 a1 a4 a5 a7 : Option W}
    (j : DS G.cl S0 S aP aS s gd nw P d H F E pA mA n) (hn : n ≤ 64) (hra : S ra = some (.lst (rs.map W.int))) (hr : DrOk rs 6)
    (hq : ∀ S', DS G.cl S0 S' aP aS s gd nw P d H F E pA mA n → D.nx [a0, a1, some (.ref pA), some (.ref mA), a4, a5, some (.ref ra), a7] S') :
    wpSs G ir_law_v38_t4_2 D [a0, a1, some (.ref pA), some (.ref mA), a4, a5, some (.ref ra), a7] S := by
  have f5 : atI (rs.map W.int) 5 = some (.int (rg rs 5)) := rg_ix hr (i := 5) (by omega)
  obtain ⟨rfl, rfl⟩ : aP .obj = pA ∧ aS .obj = mA := ⟨j.e1, j.e2⟩
  have wr := j.wr hn
  unfold ir_law_v38_t4_2
  walk_at "wp"
  simp only [hra, f5, bin_mod]
  refine ⟨by decide, ?_⟩
  walk_at "wp"
  by_cases c : rg rs 5 % 4 = 0
  · rw [if_pos c]
    simp only [hG241]
    refine ⟨aP, s, nw, P, d, H, F, rfl, j.ctx hn, j.jm.sh, wr, fun S2 sb => ?_⟩
    have j2 := j.less sb
    simp only [m_obj j2.jm.st, atI_0, atI_1, atI_2, atI_3, bin_addI, hG242]
    refine ⟨aS, nw, gd, P, nw, d, H.gr, E, rfl, j2.jm.st, j2.jm.gr, wr, fun S3 sb3 => ⟨txt_eqOk wr, txt_eqOk wr, ?_⟩⟩
    rw [txt_eqv _ (shText_ok wr).shaped]
    walk_at "wp"
    exact hq S3 (j2.less sb3)
  · rw [if_neg c]
    exact hq S j
theorem v38_end {G : Gs} (hG241 : G 241 = sp_show_panes G.cl) (hG242 : G 242 = sp_law_written G.cl) {D : MEnds} {S0 S : Sto} {aP aS : PR → Addr} {s gd pA mA : Addr} {nw : Int} {P : PS} {d : Int → Nat} {H : Shs} {F E : Fp} {n : Nat} {a0 a1 a4 a5 a6 a7 : Option W}
    (j : DS G.cl S0 S aP aS s gd nw P d H F E pA mA n) (hn : n ≤ 64)
    (hq : ∀ S', Sub S0 S' → D.rt (.bl true) S') :
    wpSs G ir_law_v38_t5 D [a0, a1, some (.ref pA), some (.ref mA), a4, a5, a6, a7] S := by
  obtain ⟨rfl, rfl⟩ : aP .obj = pA ∧ aS .obj = mA := ⟨j.e1, j.e2⟩
  have wr := j.wr hn
  unfold ir_law_v38_t5
  walk_at "wp"
  simp only [hG241]
  refine ⟨aP, s, nw, P, d, H, F, rfl, j.ctx hn, j.jm.sh, wr, fun S2 sb => ?_⟩
  have j2 := j.less sb
  dsimp only
  rw [show isaW (.str (shText H.gr P nw)) "str" S2 = some true from rfl]
  dsimp only
  simp only [m_obj j2.jm.st, atI_0, atI_1, atI_2, atI_3, bin_addI, hG242]
  rw [if_pos trivial]
  refine ⟨aS, nw, gd, P, nw, d, H.gr, E, rfl, j2.jm.st, j2.jm.gr, wr, fun S3 sb3 => ⟨txt_eqOk wr, txt_eqOk wr, ?_⟩⟩
  rw [txt_eqv _ (shText_ok wr).shaped]
  exact hq S3 (j2.less sb3).jm.sub
theorem text0 : shText [] P0 0 = "next 0 1\n" := by decide +kernel
theorem pf_law_v38 (G : Gs) (hG175 : G 175 = sp_law_draws) (hG177 : G 177 = sp_law_begun G.cl) (hG183 : G 183 = sp_law_deed_v6 G.cl) (hG241 : G 241 = sp_show_panes G.cl) (hG242 : G 242 = sp_law_written G.cl) (hG412 : G 412 = sp_Sheets_init G.cl) (hG427 : G 427 = sp_Panes_init G.cl) (ws : List W) (S : Sto) (Q : WQ) (X : XQ) (h : sp_law ws S Q X) : ws.length = 1 ∧ wpF G 8 ir_law_v38 ws S Q X := by
  obtain ⟨ns, rfl, hl, hb, hq⟩ := h
  refine ⟨rfl, ?_⟩
  have sz : ∀ {n : Nat}, n ≤ 1000 → n ≤ sizeLine := fun h => by rw [sizeLine_val]; omega
  unfold wpF ir_law_v38
  show wpSs G (.cons _ (.cons _ (.cons _ (.cons _ ir_law_v38_t4)))) _ _ _
  generalize hR : ir_law_v38_t4 = R
  walk_at "wp"
  simp only [hG175, hG177]
  rw [hd_at ns]
  dsimp only
  refine ⟨sz (by decide), nofun, nofun, by rw [List.length_map, sizeLine_val]; omega, _, 9, rfl, by decide, getD_log hb 0, fun ra rs S1 sb1 hra0 hra hr => ?_⟩
  refine ⟨ra, rs, 9, rfl, hra, hr, by decide, fun aP aS s gd H F E S2 j g1 g3 gdd => ⟨rfl, ?_⟩⟩
  have a7 : atI (rs.map W.int) 7 = some (.int (rg rs 7)) := rg_ix hr (i := 7) (by omega)
  have a8 : atI (rs.map W.int) 8 = some (.int (rg rs 8)) := rg_ix hr (i := 8) (by omega)
  have j0 := DS.start j g1 g3 gdd
  dsimp only
  rw [idx_ref, j.sub _ _ hra]
  dsimp only
  rw [a7]
  dsimp only
  rw [bin_mod]
  obtain ⟨far, efar, hfar⟩ := far_at (rg rs 7)
  refine ⟨sz (by decide), by decide, ?_⟩
  dsimp only
  rw [efar]
  dsimp only
  simp only [idx_ref, j.sub _ _ hra, a8, bin_mod]
  refine ⟨by decide, ?_⟩
  walk_at "wp"
  by_cases c8 : rg rs 8 % 8 = 1
  · rw [if_pos c8]
    simp only [hG412, hG427, hG241]
    intro ps hps
    refine ⟨ps, rfl, put_same, fun Fs S3 sh3 ow3 => ⟨rfl, ?_⟩⟩
    intro pp hpp
    refine ⟨pp, ps, rfl, put_same, fun aP2 S4 lp e1 ow4 => ⟨rfl, ?_⟩⟩
    have b3 := ow3.base (Sub.put hps) (fun q hq => by rw [show q = ps from hq]; exact hps)
    have b4 := ow4.base (Sub.put hpp) (fun q hq => by rw [show q = pp from hq]; exact hpp)
    have sh4 := sh3.sub b4.1
    have wr : WrP P0 0 (fun _ => 0) [] := ⟨P0_wf, (fun k hk => by cases hk), (fun k hk => by cases hk), by decide, by decide, (fun g hg => by cases hg), by decide⟩
    refine ⟨aP2, ps, 0, P0, (fun _ => 0), ⟨[], []⟩, Fs, by rw [e1], ⟨lp, P0_wf, by decide, ⟨_, _, sh4, rfl⟩, by decide⟩, sh4, wr, fun S5 sb5 => ?_⟩
    have ek : W.eqOk (.str "next 0 1\n") := (ShW.str (d := 1) (TkO.lit (n := 9) (by decide +kernel)).shaped).eqOk (by decide)
    have e9 : shText (Shs.gr ⟨[], []⟩) P0 0 = "next 0 1\n" := text0
    rw [e9]
    refine ⟨ek, ek, ?_⟩
    rw [txt_eqv _ (TkO.lit (n := 9) (by decide +kernel)).shaped]
    exact ⟨S, sb1.trans (j.sub.trans (b3.1.trans (b4.1.trans sb5))), hq⟩
  rw [if_neg c8, ← hR]
  unfold ir_law_v38_t4
  show wpSs G (.cons (.for _ _ (.cons _ (.cons _ ir_law_v38_t4_2))) ir_law_v38_t5) _ _ _
  generalize hR5 : ir_law_v38_t5 = R5
  generalize hRb : ir_law_v38_t4_2 = Rb
  walk_at "wp"
  have ed : cutW (ns.map W.int) (some 1) none = (ns.drop 1).map W.int := by rw [cutW_drop1, List.map_drop]
  rw [ed]
  refine ⟨nofun, ?_⟩
  have hb0 : ∀ z ∈ ns.drop 1, z.natAbs.log2 < 2000000 := fun z hz => hb z (List.mem_of_mem_drop hz)
  refine ForG.map (ns.drop 1) W.int rfl (fun dn r σ' S' => ∃ (aP' aS' : PR → Addr) (s gd : Addr) (nw : Int) (P : PS) (d : Int → Nat) (H : Shs) (F E : Fp) (b5 b6 : Option W), DS G.cl S1 S' aP' aS' s gd nw P d H F E (aP .obj) (aS .obj) dn.length ∧
    σ' = [some (.rol (ns.map W.int)), some (.ref ra), some (.ref (aP .obj)), some (.ref (aS .obj)), some (.int far), b5, b6, none]) _ (Sub.refl _)
    ⟨aP, aS, s, gd, 0, P0, _, H, F, E, _, _, j0, rfl⟩ ?_ ?_
  · rintro dn cell r σ' S' hsp ⟨aP', aS', s', gd', nw, P, d, H', F', E', b5, b6, j', rfl⟩
    refine ⟨trivial, ?_⟩
    have hdn : dn.length ≤ 62 := by
      have := congrArg List.length hsp
      rw [List.length_drop, List.length_append, List.length_cons] at this
      omega
    have hcl : cell ∈ ns.drop 1 := by rw [hsp]; simp
    walk_at "wp"
    simp only [hG175, hG183]
    refine ⟨cell, 6, rfl, by decide, hb0 cell hcl, fun r2 rs2 S3 sb3 hr0 hr2 hd2 => ?_⟩
    have j3 := j'.less sb3
    refine j3.deed (by omega) hr2 hd2 (by decide) (j'.new hr0) hfar fun aP3 aS3 nw3 P3 d3 H3 F3 E3 S4 j4 ow hr4 => ?_
    rw [← hRb]
    refine v38_ask hG241 hG242 j4 (by omega) hr4 hd2 fun S5 j5 => ?_
    exact ⟨aP3, aS3, s', gd', nw3, P3, d3, H3, F3, E3, _, _, by rw [List.length_append, List.length_singleton]; exact j5, rfl⟩
  · rintro σ' S' ⟨aP', aS', s', gd', nw, P, d, H', F', E', b5, b6, j', rfl⟩
    refine ⟨trivial, ?_⟩
    rw [← hR5]
    have hdn : (ns.drop 1).length ≤ 64 := by rw [List.length_drop]; omega
    exact v38_end hG241 hG242 j' hdn fun S7 sb7 => ⟨S, sb1.trans sb7, hq⟩
end M3
namespace M3L
open PySem PySem.Spec PyProof.Rows L2 M3
def G (cl : Nat → Addr) : Gs := ⟨fun i => bif i == 77 then sp_cut_between else bif i == 175 then sp_law_draws else bif i == 176 then sp_law_sign_v2 else bif i == 177 then sp_law_begun cl else bif i == 178 then sp_law_opened cl else bif i == 179 then sp_law_within_v2 else bif i == 180 then sp_law_ordered_v2 cl else bif i == 181 then sp_law_gone_v2 cl else bif i == 182 then sp_law_met_v2 cl else bif i == 183 then sp_law_deed_v6 cl else bif i == 239 then sp_sheet_rows cl else bif i == 240 then sp_pane_row else bif i == 241 then sp_show_panes cl else bif i == 242 then sp_law_written cl else bif i == 412 then sp_Sheets_init cl else bif i == 413 then sp_Sheets_size_of cl else bif i == 414 then sp_Sheets_how_many cl else bif i == 415 then sp_Sheets_make cl else bif i == 416 then sp_Sheets_cells_met cl else bif i == 417 then sp_Sheets_write cl else bif i == 420 then sp_Sheets_rows_of cl else bif i == 425 then sp_Sheets_fill_v3 cl else bif i == 427 then sp_Panes_init cl else bif i == 428 then sp_Panes_sheets_kept cl else bif i == 429 then sp_Panes_fact_of cl else bif i == 430 then sp_Panes_list_of cl else bif i == 431 then sp_Panes_told cl else bif i == 432 then sp_Panes_inside cl else bif i == 433 then sp_Panes_all_panes cl else bif i == 434 then sp_Panes_following cl else bif i == 435 then sp_Panes_open_pane cl else bif i == 436 then sp_Panes_move cl else bif i == 437 then sp_Panes_resize cl else bif i == 438 then sp_Panes_scroll cl else bif i == 439 then sp_Panes_turn cl else bif i == 440 then sp_Panes_lift cl else bif i == 441 then sp_Panes_sink cl else bif i == 442 then sp_Panes_put_over cl else bif i == 443 then sp_Panes_put_into cl else bif i == 444 then sp_Panes_hide cl else bif i == 445 then sp_Panes_show cl else bif i == 446 then sp_Panes_let_go cl else fun _ _ _ _ => False, cl, LK.ex, none⟩
def c0 : M3.Ctx := LK.ctx
theorem sc10_0 : FnScope N_Panes_init ["self", "sheets"] (defScope s10_0) := ⟨rfl, rfl, rfl, by decide +kernel, rfl, by decide +kernel, by decide +kernel⟩
theorem chk10_0 : chkSs { c0 with N := N_Panes_init } ir_Panes_init (defScope s10_0) (defBody s10_0) = true := by decide +kernel
def c1 : M3.Ctx := { c0 with mks := (427, 11, "Panes") :: c0.mks }
theorem sc10_1 : FnScope N_Panes_sheets_kept ["self"] (defScope s10_1) := ⟨rfl, rfl, rfl, by decide +kernel, rfl, by decide +kernel, by decide +kernel⟩
theorem chk10_1 : chkSs { c1 with N := N_Panes_sheets_kept } ir_Panes_sheets_kept (defScope s10_1) (defBody s10_1) = true := by decide +kernel
def c2 : M3.Ctx := { c1 with mth := (428, 11, "sheets_kept") :: c1.mth }
theorem sc10_2 : FnScope N_Panes_fact_of ["self", "pane"] (defScope s10_2) := ⟨rfl, rfl, rfl, by decide +kernel, rfl, by decide +kernel, by decide +kernel⟩
theorem chk10_2 : chkSs { c2 with N := N_Panes_fact_of } ir_Panes_fact_of (defScope s10_2) (defBody s10_2) = true := by decide +kernel
def c3 : M3.Ctx := { c2 with mth := (429, 11, "fact_of") :: c2.mth }
theorem sc10_3 : FnScope N_Panes_list_of ["self", "parent"] (defScope s10_3) := ⟨rfl, rfl, rfl, by decide +kernel, rfl, by decide +kernel, by decide +kernel⟩
theorem chk10_3 : chkSs { c3 with N := N_Panes_list_of } ir_Panes_list_of (defScope s10_3) (defBody s10_3) = true := by decide +kernel
def c4 : M3.Ctx := { c3 with mth := (430, 11, "list_of") :: c3.mth }
theorem sc10_4 : FnScope N_Panes_told ["self", "pane"] (defScope s10_4) := ⟨rfl, rfl, rfl, by decide +kernel, rfl, by decide +kernel, by decide +kernel⟩
theorem chk10_4 : chkSs { c4 with N := N_Panes_told } ir_Panes_told (defScope s10_4) (defBody s10_4) = true := by decide +kernel
def c5 : M3.Ctx := { c4 with mth := (431, 11, "told") :: c4.mth }
theorem sc10_5 : FnScope N_Panes_inside ["self", "parent"] (defScope s10_5) := ⟨rfl, rfl, rfl, by decide +kernel, rfl, by decide +kernel, by decide +kernel⟩
theorem chk10_5 : chkSs { c5 with N := N_Panes_inside } ir_Panes_inside (defScope s10_5) (defBody s10_5) = true := by decide +kernel
def c6 : M3.Ctx := { c5 with mth := (432, 11, "inside") :: c5.mth }
theorem sc10_6 : FnScope N_Panes_all_panes ["self"] (defScope s10_6) := ⟨rfl, rfl, rfl, by decide +kernel, rfl, by decide +kernel, by decide +kernel⟩
theorem chk10_6 : chkSs { c6 with N := N_Panes_all_panes } ir_Panes_all_panes (defScope s10_6) (defBody s10_6) = true := by decide +kernel
def c7 : M3.Ctx := { c6 with mth := (433, 11, "all_panes") :: c6.mth }
theorem sc10_7 : FnScope N_Panes_following ["self"] (defScope s10_7) := ⟨rfl, rfl, rfl, by decide +kernel, rfl, by decide +kernel, by decide +kernel⟩
theorem chk10_7 : chkSs { c7 with N := N_Panes_following } ir_Panes_following (defScope s10_7) (defBody s10_7) = true := by decide +kernel
def c8 : M3.Ctx := { c7 with mth := (434, 11, "following") :: c7.mth }
theorem sc19_1 : FnScope N_Sheets_size_of ["self", "sheet"] (defScope s19_1) := ⟨rfl, rfl, rfl, by decide +kernel, rfl, by decide +kernel, by decide +kernel⟩
theorem chk19_1 : chkSs { c8 with N := N_Sheets_size_of } ir_Sheets_size_of (defScope s19_1) (defBody s19_1) = true := by decide +kernel
def c9 : M3.Ctx := { c8 with mth := (413, 10, "size_of") :: c8.mth }
theorem sc10_8 : FnScope N_Panes_open_pane ["self", "parent", "sheet", "x", "y", "w", "h"] (defScope s10_8) := ⟨rfl, rfl, rfl, by decide +kernel, rfl, by decide +kernel, by decide +kernel⟩
theorem chk10_8 : chkSs { c9 with N := N_Panes_open_pane } ir_Panes_open_pane (defScope s10_8) (defBody s10_8) = true := by decide +kernel
def c10 : M3.Ctx := { c9 with mth := (435, 11, "open_pane") :: c9.mth }
theorem sc10_9 : FnScope N_Panes_move ["self", "pane", "x", "y"] (defScope s10_9) := ⟨rfl, rfl, rfl, by decide +kernel, rfl, by decide +kernel, by decide +kernel⟩
theorem chk10_9 : chkSs { c10 with N := N_Panes_move } ir_Panes_move (defScope s10_9) (defBody s10_9) = true := by decide +kernel
def c11 : M3.Ctx := { c10 with mth := (436, 11, "move") :: c10.mth }
theorem sc10_10 : FnScope N_Panes_resize ["self", "pane", "w", "h"] (defScope s10_10) := ⟨rfl, rfl, rfl, by decide +kernel, rfl, by decide +kernel, by decide +kernel⟩
theorem chk10_10 : chkSs { c11 with N := N_Panes_resize } ir_Panes_resize (defScope s10_10) (defBody s10_10) = true := by decide +kernel
def c12 : M3.Ctx := { c11 with mth := (437, 11, "resize") :: c11.mth }
theorem sc10_11 : FnScope N_Panes_scroll ["self", "pane", "sx", "sy"] (defScope s10_11) := ⟨rfl, rfl, rfl, by decide +kernel, rfl, by decide +kernel, by decide +kernel⟩
theorem chk10_11 : chkSs { c12 with N := N_Panes_scroll } ir_Panes_scroll (defScope s10_11) (defBody s10_11) = true := by decide +kernel
def c13 : M3.Ctx := { c12 with mth := (438, 11, "scroll") :: c12.mth }
theorem sc10_12 : FnScope N_Panes_turn ["self", "pane", "sheet"] (defScope s10_12) := ⟨rfl, rfl, rfl, by decide +kernel, rfl, by decide +kernel, by decide +kernel⟩
theorem chk10_12 : chkSs { c13 with N := N_Panes_turn } ir_Panes_turn (defScope s10_12) (defBody s10_12) = true := by decide +kernel
def c14 : M3.Ctx := { c13 with mth := (439, 11, "turn") :: c13.mth }
theorem sc10_13 : FnScope N_Panes_lift ["self", "pane"] (defScope s10_13) := ⟨rfl, rfl, rfl, by decide +kernel, rfl, by decide +kernel, by decide +kernel⟩
theorem chk10_13 : chkSs { c14 with N := N_Panes_lift } ir_Panes_lift (defScope s10_13) (defBody s10_13) = true := by decide +kernel
def c15 : M3.Ctx := { c14 with mth := (440, 11, "lift") :: c14.mth }
theorem sc10_14 : FnScope N_Panes_sink ["self", "pane"] (defScope s10_14) := ⟨rfl, rfl, rfl, by decide +kernel, rfl, by decide +kernel, by decide +kernel⟩
theorem chk10_14 : chkSs { c15 with N := N_Panes_sink } ir_Panes_sink (defScope s10_14) (defBody s10_14) = true := by decide +kernel
def c16 : M3.Ctx := { c15 with mth := (441, 11, "sink") :: c15.mth }
theorem sc10_15 : FnScope N_Panes_put_over ["self", "pane", "brother"] (defScope s10_15) := ⟨rfl, rfl, rfl, by decide +kernel, rfl, by decide +kernel, by decide +kernel⟩
theorem chk10_15 : chkSs { c16 with N := N_Panes_put_over } ir_Panes_put_over (defScope s10_15) (defBody s10_15) = true := by decide +kernel
def c17 : M3.Ctx := { c16 with mth := (442, 11, "put_over") :: c16.mth }
theorem sc10_16 : FnScope N_Panes_put_into ["self", "pane", "parent"] (defScope s10_16) := ⟨rfl, rfl, rfl, by decide +kernel, rfl, by decide +kernel, by decide +kernel⟩
theorem chk10_16 : chkSs { c17 with N := N_Panes_put_into } ir_Panes_put_into (defScope s10_16) (defBody s10_16) = true := by decide +kernel
def c18 : M3.Ctx := { c17 with mth := (443, 11, "put_into") :: c17.mth }
theorem sc10_17 : FnScope N_Panes_hide ["self", "pane"] (defScope s10_17) := ⟨rfl, rfl, rfl, by decide +kernel, rfl, by decide +kernel, by decide +kernel⟩
theorem chk10_17 : chkSs { c18 with N := N_Panes_hide } ir_Panes_hide (defScope s10_17) (defBody s10_17) = true := by decide +kernel
def c19 : M3.Ctx := { c18 with mth := (444, 11, "hide") :: c18.mth }
theorem sc10_18 : FnScope N_Panes_show ["self", "pane"] (defScope s10_18) := ⟨rfl, rfl, rfl, by decide +kernel, rfl, by decide +kernel, by decide +kernel⟩
theorem chk10_18 : chkSs { c19 with N := N_Panes_show } ir_Panes_show (defScope s10_18) (defBody s10_18) = true := by decide +kernel
def c20 : M3.Ctx := { c19 with mth := (445, 11, "show") :: c19.mth }
theorem sc10_19 : FnScope N_Panes_let_go ["self", "pane"] (defScope s10_19) := ⟨rfl, rfl, rfl, by decide +kernel, rfl, by decide +kernel, by decide +kernel⟩
theorem chk10_19 : chkSs { c20 with N := N_Panes_let_go } ir_Panes_let_go (defScope s10_19) (defBody s10_19) = true := by decide +kernel
def c21 : M3.Ctx := { c20 with mth := (446, 11, "let_go") :: c20.mth }
theorem sc18 : FnScope N_cut_between ["start", "length", "end"] (defScope s18) := ⟨rfl, rfl, rfl, by decide +kernel, rfl, by decide +kernel, by decide +kernel⟩
theorem chk18 : chkSs { c21 with N := N_cut_between } ir_cut_between (defScope s18) (defBody s18) = true := by decide +kernel
def c22 : M3.Ctx := { c21 with fns := (77, "cut_between") :: c21.fns }
theorem sc19_0 : FnScope N_Sheets_init ["self"] (defScope s19_0) := ⟨rfl, rfl, rfl, by decide +kernel, rfl, by decide +kernel, by decide +kernel⟩
theorem chk19_0 : chkSs { c22 with N := N_Sheets_init } ir_Sheets_init (defScope s19_0) (defBody s19_0) = true := by decide +kernel
def c23 : M3.Ctx := { c22 with mks := (412, 10, "Sheets") :: c22.mks }
theorem sc19_2 : FnScope N_Sheets_how_many ["self"] (defScope s19_2) := ⟨rfl, rfl, rfl, by decide +kernel, rfl, by decide +kernel, by decide +kernel⟩
theorem chk19_2 : chkSs { c23 with N := N_Sheets_how_many } ir_Sheets_how_many (defScope s19_2) (defBody s19_2) = true := by decide +kernel
def c24 : M3.Ctx := { c23 with mth := (414, 10, "how_many") :: c23.mth }
theorem sc19_3 : FnScope N_Sheets_make ["self", "w", "h", "sign"] (defScope s19_3) := ⟨rfl, rfl, rfl, by decide +kernel, rfl, by decide +kernel, by decide +kernel⟩
theorem chk19_3 : chkSs { c24 with N := N_Sheets_make } ir_Sheets_make (defScope s19_3) (defBody s19_3) = true := by decide +kernel
def c25 : M3.Ctx := { c24 with mth := (415, 10, "make") :: c24.mth }
theorem sc19_4 : FnScope N_Sheets_cells_met ["self", "sheet", "x", "y", "w", "h"] (defScope s19_4) := ⟨rfl, rfl, rfl, by decide +kernel, rfl, by decide +kernel, by decide +kernel⟩
theorem chk19_4 : chkSs { c25 with N := N_Sheets_cells_met } ir_Sheets_cells_met (defScope s19_4) (defBody s19_4) = true := by decide +kernel
def c26 : M3.Ctx := { c25 with mth := (416, 10, "cells_met") :: c25.mth }
theorem sc19_5 : FnScope N_Sheets_write ["self", "sheet", "x", "y", "text"] (defScope s19_5) := ⟨rfl, rfl, rfl, by decide +kernel, rfl, by decide +kernel, by decide +kernel⟩
theorem chk19_5 : chkSs { c26 with N := N_Sheets_write } ir_Sheets_write (defScope s19_5) (defBody s19_5) = true := by decide +kernel
def c27 : M3.Ctx := { c26 with mth := (417, 10, "write") :: c26.mth }
theorem sc19_6 : FnScope N_Sheets_fill_v3 ["self", "sheet", "x", "y", "w", "h", "sign"] (defScope s19_6) := ⟨rfl, rfl, rfl, by decide +kernel, rfl, by decide +kernel, by decide +kernel⟩
theorem chk19_6 : chkSs { c27 with N := N_Sheets_fill_v3 } ir_Sheets_fill_v3 (defScope s19_6) (defBody s19_6) = true := by decide +kernel
def c28 : M3.Ctx := { c27 with mth := (425, 10, "fill") :: c27.mth }
theorem sc19_8 : FnScope N_Sheets_rows_of ["self", "sheet"] (defScope s19_8) := ⟨rfl, rfl, rfl, by decide +kernel, rfl, by decide +kernel, by decide +kernel⟩
theorem chk19_8 : chkSs { c28 with N := N_Sheets_rows_of } ir_Sheets_rows_of (defScope s19_8) (defBody s19_8) = true := by decide +kernel
def c29 : M3.Ctx := { c28 with mth := (420, 10, "rows_of") :: c28.mth }
theorem sc21 : FnScope N_sheet_rows ["sheets"] (defScope s21) := ⟨rfl, rfl, rfl, by decide +kernel, rfl, by decide +kernel, by decide +kernel⟩
theorem chk21 : chkSs { c29 with N := N_sheet_rows } ir_sheet_rows (defScope s21) (defBody s21) = true := by decide +kernel
def c30 : M3.Ctx := { c29 with fns := (239, "sheet_rows") :: c29.fns }
theorem sc22 : FnScope N_pane_row ["pane", "told"] (defScope s22) := ⟨rfl, rfl, rfl, by decide +kernel, rfl, by decide +kernel, by decide +kernel⟩
theorem chk22 : chkSs { c30 with N := N_pane_row } ir_pane_row (defScope s22) (defBody s22) = true := by decide +kernel
def c31 : M3.Ctx := { c30 with fns := (240, "pane_row") :: c30.fns }
theorem sc23 : FnScope N_show_panes ["panes"] (defScope s23) := ⟨rfl, rfl, rfl, by decide +kernel, rfl, by decide +kernel, by decide +kernel⟩
theorem chk23 : chkSs { c31 with N := N_show_panes } ir_show_panes (defScope s23) (defBody s23) = true := by decide +kernel
def c32 : M3.Ctx := { c31 with fns := (241, "show_panes") :: c31.fns }
theorem sc25 : FnScope N_law_draws ["cell", "count"] (defScope s25) := ⟨rfl, rfl, rfl, by decide +kernel, rfl, by decide +kernel, by decide +kernel⟩
theorem chk25 : chkSs { c32 with N := N_law_draws } ir_law_draws (defScope s25) (defBody s25) = true := by decide +kernel
def c33 : M3.Ctx := { c32 with fns := (175, "_law_draws") :: c32.fns }
theorem sc26 : FnScope N_law_sign_v2 ["number"] (defScope s26) := ⟨rfl, rfl, rfl, by decide +kernel, rfl, by decide +kernel, by decide +kernel⟩
theorem chk26 : chkSs { c33 with N := N_law_sign_v2 } ir_law_sign_v2 (defScope s26) (defBody s26) = true := by decide +kernel
def c34 : M3.Ctx := { c33 with fns := (176, "_law_sign") :: c33.fns }
theorem sc27 : FnScope N_law_begun ["r"] (defScope s27) := ⟨rfl, rfl, rfl, by decide +kernel, rfl, by decide +kernel, by decide +kernel⟩
theorem chk27 : chkSs { c34 with N := N_law_begun } ir_law_begun (defScope s27) (defBody s27) = true := by decide +kernel
def c35 : M3.Ctx := { c34 with fns := (177, "_law_begun") :: c34.fns }
theorem sc28 : FnScope N_law_opened ["panes", "m", "r", "far"] (defScope s28) := ⟨rfl, rfl, rfl, by decide +kernel, rfl, by decide +kernel, by decide +kernel⟩
theorem chk28 : chkSs { c35 with N := N_law_opened } ir_law_opened (defScope s28) (defBody s28) = true := by decide +kernel
def c36 : M3.Ctx := { c35 with fns := (178, "_law_opened") :: c35.fns }
theorem sc29 : FnScope N_law_within_v2 ["m", "pane", "one"] (defScope s29) := ⟨rfl, rfl, rfl, by decide +kernel, rfl, by decide +kernel, by decide +kernel⟩
theorem chk29 : chkSs { c36 with N := N_law_within_v2 } ir_law_within_v2 (defScope s29) (defBody s29) = true := by decide +kernel
def c37 : M3.Ctx := { c36 with fns := (179, "_law_within") :: c36.fns }
theorem sc30 : FnScope N_law_ordered_v2 ["panes", "m", "pane", "r"] (defScope s30) := ⟨rfl, rfl, rfl, by decide +kernel, rfl, by decide +kernel, by decide +kernel⟩
theorem chk30 : chkSs { c37 with N := N_law_ordered_v2 } ir_law_ordered_v2 (defScope s30) (defBody s30) = true := by decide +kernel
def c38 : M3.Ctx := { c37 with fns := (180, "_law_ordered") :: c37.fns }
theorem sc31 : FnScope N_law_gone_v2 ["panes", "m", "pane"] (defScope s31) := ⟨rfl, rfl, rfl, by decide +kernel, rfl, by decide +kernel, by decide +kernel⟩
theorem chk31 : chkSs { c38 with N := N_law_gone_v2 } ir_law_gone_v2 (defScope s31) (defBody s31) = true := by decide +kernel
def c39 : M3.Ctx := { c38 with fns := (181, "_law_gone") :: c38.fns }
theorem sc32 : FnScope N_law_met_v2 ["panes", "m", "r"] (defScope s32) := ⟨rfl, rfl, rfl, by decide +kernel, rfl, by decide +kernel, by decide +kernel⟩
theorem chk32 : chkSs { c39 with N := N_law_met_v2 } ir_law_met_v2 (defScope s32) (defBody s32) = true := by decide +kernel
def c40 : M3.Ctx := { c39 with fns := (182, "_law_met") :: c39.fns }
theorem sc33 : FnScope N_law_deed_v6 ["panes", "m", "r", "far"] (defScope s33) := ⟨rfl, rfl, rfl, by decide +kernel, rfl, by decide +kernel, by decide +kernel⟩
theorem chk33 : chkSs { c40 with N := N_law_deed_v6 } ir_law_deed_v6 (defScope s33) (defBody s33) = true := by decide +kernel
def c41 : M3.Ctx := { c40 with fns := (183, "_law_deed") :: c40.fns }
theorem sc34 : FnScope N_law_written ["grids", "facts", "lists", "following"] (defScope s34) := ⟨rfl, rfl, rfl, by decide +kernel, rfl, by decide +kernel, by decide +kernel⟩
theorem chk34 : chkSs { c41 with N := N_law_written } ir_law_written (defScope s34) (defBody s34) = true := by decide +kernel
def c42 : M3.Ctx := { c41 with fns := (242, "_law_written") :: c41.fns }
theorem sc35 : FnScope N_law_v38 ["script"] (defScope s35) := ⟨rfl, rfl, rfl, by decide +kernel, rfl, by decide +kernel, by decide +kernel⟩
theorem chk35 : chkSs { c42 with N := N_law_v38 } ir_law_v38 (defScope s35) (defBody s35) = true := by decide +kernel
theorem facts {P : Program} {w : World} {K : PySem.W.Frag} {h : Heap} {mg : Str → Option Value} {f : Addr} (KX : K.In h) (GX : h.Ns mainGlobals mg) (hfa : mg ("law" : Str) = some (.ref f)) (cx : SaysX LK fa fn K) :
    ∃ fd : FuncData, (∀ (s : Shared) (v : Value), BindsTo s fd ⟨[v], []⟩ [("script", v)]) ∧ ∀ base : Heap, K.In base → base.Ns mainGlobals mg → FnOk P w K mg base (L2.CX P w) 45 f fd ["script"] (liftSp K sp_law) := by
  have c := cx.d
  have b_len : mg "len" = none := He.free_ok KX GX (c.fact 15 (f := .free "len") rfl)
  have b_max : mg "max" = none := He.free_ok KX GX (c.fact 16 (f := .free "max") rfl)
  have b_min : mg "min" = none := He.free_ok KX GX (c.fact 17 (f := .free "min") rfl)
  have b_range : mg "range" = none := He.free_ok KX GX (c.fact 18 (f := .free "range") rfl)
  have b_zip : mg "zip" = none := He.free_ok KX GX (c.fact 19 (f := .free "zip") rfl)
  have b_enumerate : mg "enumerate" = none := He.free_ok KX GX (c.fact 20 (f := .free "enumerate") rfl)
  have b_tuple : mg "tuple" = none := He.free_ok KX GX (c.fact 21 (f := .free "tuple") rfl)
  have b_list : mg "list" = none := He.free_ok KX GX (c.fact 22 (f := .free "list") rfl)
  have b_sum : mg "sum" = none := He.free_ok KX GX (c.fact 23 (f := .free "sum") rfl)
  have b_any : mg "any" = none := He.free_ok KX GX (c.fact 24 (f := .free "any") rfl)
  have b_all : mg "all" = none := He.free_ok KX GX (c.fact 25 (f := .free "all") rfl)
  have b_sorted : mg "sorted" = none := He.free_ok KX GX (c.fact 26 (f := .free "sorted") rfl)
  have b_set : mg "set" = none := He.free_ok KX GX (c.fact 27 (f := .free "set") rfl)
  have b_isinstance : mg "isinstance" = none := He.free_ok KX GX (c.fact 28 (f := .free "isinstance") rfl)
  have b_int : mg "int" = none := He.free_ok KX GX (c.fact 29 (f := .free "int") rfl)
  have b_bool : mg "bool" = none := He.free_ok KX GX (c.fact 30 (f := .free "bool") rfl)
  have b_str : mg "str" = none := He.free_ok KX GX (c.fact 31 (f := .free "str") rfl)
  have b_abs : mg "abs" = none := He.free_ok KX GX (c.fact 32 (f := .free "abs") rfl)
  have b_dict : mg "dict" = none := He.free_ok KX GX (c.fact 33 (f := .free "dict") rfl)
  have b_ValueError : mg "ValueError" = none := He.free_ok KX GX (c.fact 34 (f := .free "ValueError") rfl)
  have blt : ∀ x ∈ bltNames, mg x = none := by
    intro x hx
    simp only [bltNames, List.mem_cons, List.not_mem_nil, or_false] at hx
    rcases hx with rfl | rfl | rfl | rfl | rfl | rfl | rfl | rfl | rfl | rfl | rfl | rfl | rfl | rfl | rfl | rfl | rfl | rfl | rfl | rfl
    · exact b_len
    · exact b_max
    · exact b_min
    · exact b_range
    · exact b_zip
    · exact b_enumerate
    · exact b_tuple
    · exact b_list
    · exact b_sum
    · exact b_any
    · exact b_all
    · exact b_sorted
    · exact b_set
    · exact b_isinstance
    · exact b_int
    · exact b_bool
    · exact b_str
    · exact b_abs
    · exact b_dict
    · exact b_ValueError
  have gc_Panes : mg "Panes" = some (.ref (clK K 11)) := He.glo_ok KX GX (c.fact 35 (f := .glo "Panes") rfl)
  have cc_Panes : Cls K (clK K 11) := He.cls_ok (c.fact 36 (f := .cls "Panes") rfl)
  have gc_Sheets : mg "Sheets" = some (.ref (clK K 10)) := He.glo_ok KX GX (c.fact 37 (f := .glo "Sheets") rfl)
  have cc_Sheets : Cls K (clK K 10) := He.cls_ok (c.fact 38 (f := .cls "Sheets") rfl)
  obtain ⟨fd10_0, F10_0⟩ := c.def_ 0 (d := d10_0) rfl
  have g10_0 : Mk K (clK K 11) _ := He.mkr_ok (c.fact 39 (f := .mkr "Panes") rfl)
  have bd10_0 : Binds K fd10_0 ["self", "sheets"] [] := F10_0.bindsN fun _ _ _ _ _ _ us hl => match us, hl with | [_, _], _ => rfl
  obtain ⟨fd10_1, F10_1⟩ := c.def_ 1 (d := d10_1) rfl
  have g10_1 : Meth K (clK K 11) "sheets_kept" _ := He.meth_ok (c.fact 40 (f := .meth "Panes" "sheets_kept") rfl)
  have bd10_1 : Binds K fd10_1 ["self"] [] := F10_1.bindsN fun _ _ _ _ _ _ us hl => match us, hl with | [_], _ => rfl
  obtain ⟨fd10_2, F10_2⟩ := c.def_ 2 (d := d10_2) rfl
  have g10_2 : Meth K (clK K 11) "fact_of" _ := He.meth_ok (c.fact 41 (f := .meth "Panes" "fact_of") rfl)
  have bd10_2 : Binds K fd10_2 ["self", "pane"] [] := F10_2.bindsN fun _ _ _ _ _ _ us hl => match us, hl with | [_, _], _ => rfl
  obtain ⟨fd10_3, F10_3⟩ := c.def_ 3 (d := d10_3) rfl
  have g10_3 : Meth K (clK K 11) "list_of" _ := He.meth_ok (c.fact 42 (f := .meth "Panes" "list_of") rfl)
  have bd10_3 : Binds K fd10_3 ["self", "parent"] [] := F10_3.bindsN fun _ _ _ _ _ _ us hl => match us, hl with | [_, _], _ => rfl
  obtain ⟨fd10_4, F10_4⟩ := c.def_ 4 (d := d10_4) rfl
  have g10_4 : Meth K (clK K 11) "told" _ := He.meth_ok (c.fact 43 (f := .meth "Panes" "told") rfl)
  have bd10_4 : Binds K fd10_4 ["self", "pane"] [] := F10_4.bindsN fun _ _ _ _ _ _ us hl => match us, hl with | [_, _], _ => rfl
  obtain ⟨fd10_5, F10_5⟩ := c.def_ 5 (d := d10_5) rfl
  have g10_5 : Meth K (clK K 11) "inside" _ := He.meth_ok (c.fact 44 (f := .meth "Panes" "inside") rfl)
  have bd10_5 : Binds K fd10_5 ["self", "parent"] [] := F10_5.bindsN fun _ _ _ _ _ _ us hl => match us, hl with | [_, _], _ => rfl
  obtain ⟨fd10_6, F10_6⟩ := c.def_ 6 (d := d10_6) rfl
  have g10_6 : Meth K (clK K 11) "all_panes" _ := He.meth_ok (c.fact 45 (f := .meth "Panes" "all_panes") rfl)
  have bd10_6 : Binds K fd10_6 ["self"] [] := F10_6.bindsN fun _ _ _ _ _ _ us hl => match us, hl with | [_], _ => rfl
  obtain ⟨fd10_7, F10_7⟩ := c.def_ 7 (d := d10_7) rfl
  have g10_7 : Meth K (clK K 11) "following" _ := He.meth_ok (c.fact 46 (f := .meth "Panes" "following") rfl)
  have bd10_7 : Binds K fd10_7 ["self"] [] := F10_7.bindsN fun _ _ _ _ _ _ us hl => match us, hl with | [_], _ => rfl
  obtain ⟨fd19_1, F19_1⟩ := c.def_ 8 (d := d19_1) rfl
  have g19_1 : Meth K (clK K 10) "size_of" _ := He.meth_ok (c.fact 47 (f := .meth "Sheets" "size_of") rfl)
  have bd19_1 : Binds K fd19_1 ["self", "sheet"] [] := F19_1.bindsN fun _ _ _ _ _ _ us hl => match us, hl with | [_, _], _ => rfl
  obtain ⟨fd10_8, F10_8⟩ := c.def_ 9 (d := d10_8) rfl
  have g10_8 : Meth K (clK K 11) "open_pane" _ := He.meth_ok (c.fact 48 (f := .meth "Panes" "open_pane") rfl)
  have bd10_8 : Binds K fd10_8 ["self", "parent", "sheet", "x", "y", "w", "h"] [] := F10_8.bindsN fun _ _ _ _ _ _ us hl => match us, hl with | [_, _, _, _, _, _, _], _ => rfl
  obtain ⟨fd10_9, F10_9⟩ := c.def_ 10 (d := d10_9) rfl
  have g10_9 : Meth K (clK K 11) "move" _ := He.meth_ok (c.fact 49 (f := .meth "Panes" "move") rfl)
  have bd10_9 : Binds K fd10_9 ["self", "pane", "x", "y"] [] := F10_9.bindsN fun _ _ _ _ _ _ us hl => match us, hl with | [_, _, _, _], _ => rfl
  obtain ⟨fd10_10, F10_10⟩ := c.def_ 11 (d := d10_10) rfl
  have g10_10 : Meth K (clK K 11) "resize" _ := He.meth_ok (c.fact 50 (f := .meth "Panes" "resize") rfl)
  have bd10_10 : Binds K fd10_10 ["self", "pane", "w", "h"] [] := F10_10.bindsN fun _ _ _ _ _ _ us hl => match us, hl with | [_, _, _, _], _ => rfl
  obtain ⟨fd10_11, F10_11⟩ := c.def_ 12 (d := d10_11) rfl
  have g10_11 : Meth K (clK K 11) "scroll" _ := He.meth_ok (c.fact 51 (f := .meth "Panes" "scroll") rfl)
  have bd10_11 : Binds K fd10_11 ["self", "pane", "sx", "sy"] [] := F10_11.bindsN fun _ _ _ _ _ _ us hl => match us, hl with | [_, _, _, _], _ => rfl
  obtain ⟨fd10_12, F10_12⟩ := c.def_ 13 (d := d10_12) rfl
  have g10_12 : Meth K (clK K 11) "turn" _ := He.meth_ok (c.fact 52 (f := .meth "Panes" "turn") rfl)
  have bd10_12 : Binds K fd10_12 ["self", "pane", "sheet"] [] := F10_12.bindsN fun _ _ _ _ _ _ us hl => match us, hl with | [_, _, _], _ => rfl
  obtain ⟨fd10_13, F10_13⟩ := c.def_ 14 (d := d10_13) rfl
  have g10_13 : Meth K (clK K 11) "lift" _ := He.meth_ok (c.fact 53 (f := .meth "Panes" "lift") rfl)
  have bd10_13 : Binds K fd10_13 ["self", "pane"] [] := F10_13.bindsN fun _ _ _ _ _ _ us hl => match us, hl with | [_, _], _ => rfl
  obtain ⟨fd10_14, F10_14⟩ := c.def_ 15 (d := d10_14) rfl
  have g10_14 : Meth K (clK K 11) "sink" _ := He.meth_ok (c.fact 54 (f := .meth "Panes" "sink") rfl)
  have bd10_14 : Binds K fd10_14 ["self", "pane"] [] := F10_14.bindsN fun _ _ _ _ _ _ us hl => match us, hl with | [_, _], _ => rfl
  obtain ⟨fd10_15, F10_15⟩ := c.def_ 16 (d := d10_15) rfl
  have g10_15 : Meth K (clK K 11) "put_over" _ := He.meth_ok (c.fact 55 (f := .meth "Panes" "put_over") rfl)
  have bd10_15 : Binds K fd10_15 ["self", "pane", "brother"] [] := F10_15.bindsN fun _ _ _ _ _ _ us hl => match us, hl with | [_, _, _], _ => rfl
  obtain ⟨fd10_16, F10_16⟩ := c.def_ 17 (d := d10_16) rfl
  have g10_16 : Meth K (clK K 11) "put_into" _ := He.meth_ok (c.fact 56 (f := .meth "Panes" "put_into") rfl)
  have bd10_16 : Binds K fd10_16 ["self", "pane", "parent"] [] := F10_16.bindsN fun _ _ _ _ _ _ us hl => match us, hl with | [_, _, _], _ => rfl
  obtain ⟨fd10_17, F10_17⟩ := c.def_ 18 (d := d10_17) rfl
  have g10_17 : Meth K (clK K 11) "hide" _ := He.meth_ok (c.fact 57 (f := .meth "Panes" "hide") rfl)
  have bd10_17 : Binds K fd10_17 ["self", "pane"] [] := F10_17.bindsN fun _ _ _ _ _ _ us hl => match us, hl with | [_, _], _ => rfl
  obtain ⟨fd10_18, F10_18⟩ := c.def_ 19 (d := d10_18) rfl
  have g10_18 : Meth K (clK K 11) "show" _ := He.meth_ok (c.fact 58 (f := .meth "Panes" "show") rfl)
  have bd10_18 : Binds K fd10_18 ["self", "pane"] [] := F10_18.bindsN fun _ _ _ _ _ _ us hl => match us, hl with | [_, _], _ => rfl
  obtain ⟨fd10_19, F10_19⟩ := c.def_ 20 (d := d10_19) rfl
  have g10_19 : Meth K (clK K 11) "let_go" _ := He.meth_ok (c.fact 59 (f := .meth "Panes" "let_go") rfl)
  have bd10_19 : Binds K fd10_19 ["self", "pane"] [] := F10_19.bindsN fun _ _ _ _ _ _ us hl => match us, hl with | [_, _], _ => rfl
  obtain ⟨fd18, F18⟩ := c.def_ 21 (d := d18) rfl
  have g18 := He.glo_ok KX GX (c.fact 0 (f := .glo "cut_between") rfl)
  have bd18 : Binds K fd18 ["start", "length", "end"] [] := F18.bindsN fun _ _ _ _ _ _ us hl => match us, hl with | [_, _, _], _ => rfl
  obtain ⟨fd19_0, F19_0⟩ := c.def_ 22 (d := d19_0) rfl
  have g19_0 : Mk K (clK K 10) _ := He.mkr_ok (c.fact 60 (f := .mkr "Sheets") rfl)
  have bd19_0 : Binds K fd19_0 ["self"] [] := F19_0.bindsN fun _ _ _ _ _ _ us hl => match us, hl with | [_], _ => rfl
  obtain ⟨fd19_2, F19_2⟩ := c.def_ 23 (d := d19_2) rfl
  have g19_2 : Meth K (clK K 10) "how_many" _ := He.meth_ok (c.fact 61 (f := .meth "Sheets" "how_many") rfl)
  have bd19_2 : Binds K fd19_2 ["self"] [] := F19_2.bindsN fun _ _ _ _ _ _ us hl => match us, hl with | [_], _ => rfl
  obtain ⟨fd19_3, F19_3⟩ := c.def_ 24 (d := d19_3) rfl
  have g19_3 : Meth K (clK K 10) "make" _ := He.meth_ok (c.fact 62 (f := .meth "Sheets" "make") rfl)
  have bd19_3 : Binds K fd19_3 ["self", "w", "h", "sign"] [] := F19_3.bindsN fun _ _ _ _ _ _ us hl => match us, hl with | [_, _, _, _], _ => rfl
  obtain ⟨fd19_4, F19_4⟩ := c.def_ 25 (d := d19_4) rfl
  have g19_4 : Meth K (clK K 10) "cells_met" _ := He.meth_ok (c.fact 63 (f := .meth "Sheets" "cells_met") rfl)
  have bd19_4 : Binds K fd19_4 ["self", "sheet", "x", "y", "w", "h"] [] := F19_4.bindsN fun _ _ _ _ _ _ us hl => match us, hl with | [_, _, _, _, _, _], _ => rfl
  obtain ⟨fd19_5, F19_5⟩ := c.def_ 26 (d := d19_5) rfl
  have g19_5 : Meth K (clK K 10) "write" _ := He.meth_ok (c.fact 64 (f := .meth "Sheets" "write") rfl)
  have bd19_5 : Binds K fd19_5 ["self", "sheet", "x", "y", "text"] [] := F19_5.bindsN fun _ _ _ _ _ _ us hl => match us, hl with | [_, _, _, _, _], _ => rfl
  obtain ⟨fd19_6, F19_6⟩ := c.def_ 27 (d := d19_6) rfl
  have g19_6 : Meth K (clK K 10) "fill" _ := He.meth_ok (c.fact 65 (f := .meth "Sheets" "fill") rfl)
  have bd19_6 : Binds K fd19_6 ["self", "sheet", "x", "y", "w", "h", "sign"] [] := F19_6.bindsN fun _ _ _ _ _ _ us hl => match us, hl with | [_, _, _, _, _, _, _], _ => rfl
  obtain ⟨fd19_8, F19_8⟩ := c.def_ 28 (d := d19_8) rfl
  have g19_8 : Meth K (clK K 10) "rows_of" _ := He.meth_ok (c.fact 66 (f := .meth "Sheets" "rows_of") rfl)
  have bd19_8 : Binds K fd19_8 ["self", "sheet"] [] := F19_8.bindsN fun _ _ _ _ _ _ us hl => match us, hl with | [_, _], _ => rfl
  obtain ⟨fd21, F21⟩ := c.def_ 29 (d := d21) rfl
  have g21 := He.glo_ok KX GX (c.fact 1 (f := .glo "sheet_rows") rfl)
  have bd21 : Binds K fd21 ["sheets"] [] := F21.bindsN fun _ _ _ _ _ _ us hl => match us, hl with | [_], _ => rfl
  obtain ⟨fd22, F22⟩ := c.def_ 30 (d := d22) rfl
  have g22 := He.glo_ok KX GX (c.fact 2 (f := .glo "pane_row") rfl)
  have bd22 : Binds K fd22 ["pane", "told"] [] := F22.bindsN fun _ _ _ _ _ _ us hl => match us, hl with | [_, _], _ => rfl
  obtain ⟨fd23, F23⟩ := c.def_ 31 (d := d23) rfl
  have g23 := He.glo_ok KX GX (c.fact 3 (f := .glo "show_panes") rfl)
  have bd23 : Binds K fd23 ["panes"] [] := F23.bindsN fun _ _ _ _ _ _ us hl => match us, hl with | [_], _ => rfl
  obtain ⟨fd25, F25⟩ := c.def_ 32 (d := d25) rfl
  have g25 := He.glo_ok KX GX (c.fact 4 (f := .glo "_law_draws") rfl)
  have bd25 : Binds K fd25 ["cell", "count"] [] := F25.bindsN fun _ _ _ _ _ _ us hl => match us, hl with | [_, _], _ => rfl
  obtain ⟨fd26, F26⟩ := c.def_ 33 (d := d26) rfl
  have g26 := He.glo_ok KX GX (c.fact 5 (f := .glo "_law_sign") rfl)
  have bd26 : Binds K fd26 ["number"] [] := F26.bindsN fun _ _ _ _ _ _ us hl => match us, hl with | [_], _ => rfl
  obtain ⟨fd27, F27⟩ := c.def_ 34 (d := d27) rfl
  have g27 := He.glo_ok KX GX (c.fact 6 (f := .glo "_law_begun") rfl)
  have bd27 : Binds K fd27 ["r"] [] := F27.bindsN fun _ _ _ _ _ _ us hl => match us, hl with | [_], _ => rfl
  obtain ⟨fd28, F28⟩ := c.def_ 35 (d := d28) rfl
  have g28 := He.glo_ok KX GX (c.fact 7 (f := .glo "_law_opened") rfl)
  have bd28 : Binds K fd28 ["panes", "m", "r", "far"] [] := F28.bindsN fun _ _ _ _ _ _ us hl => match us, hl with | [_, _, _, _], _ => rfl
  obtain ⟨fd29, F29⟩ := c.def_ 36 (d := d29) rfl
  have g29 := He.glo_ok KX GX (c.fact 8 (f := .glo "_law_within") rfl)
  have bd29 : Binds K fd29 ["m", "pane", "one"] [] := F29.bindsN fun _ _ _ _ _ _ us hl => match us, hl with | [_, _, _], _ => rfl
  obtain ⟨fd30, F30⟩ := c.def_ 37 (d := d30) rfl
  have g30 := He.glo_ok KX GX (c.fact 9 (f := .glo "_law_ordered") rfl)
  have bd30 : Binds K fd30 ["panes", "m", "pane", "r"] [] := F30.bindsN fun _ _ _ _ _ _ us hl => match us, hl with | [_, _, _, _], _ => rfl
  obtain ⟨fd31, F31⟩ := c.def_ 38 (d := d31) rfl
  have g31 := He.glo_ok KX GX (c.fact 10 (f := .glo "_law_gone") rfl)
  have bd31 : Binds K fd31 ["panes", "m", "pane"] [] := F31.bindsN fun _ _ _ _ _ _ us hl => match us, hl with | [_, _, _], _ => rfl
  obtain ⟨fd32, F32⟩ := c.def_ 39 (d := d32) rfl
  have g32 := He.glo_ok KX GX (c.fact 11 (f := .glo "_law_met") rfl)
  have bd32 : Binds K fd32 ["panes", "m", "r"] [] := F32.bindsN fun _ _ _ _ _ _ us hl => match us, hl with | [_, _, _], _ => rfl
  obtain ⟨fd33, F33⟩ := c.def_ 40 (d := d33) rfl
  have g33 := He.glo_ok KX GX (c.fact 12 (f := .glo "_law_deed") rfl)
  have bd33 : Binds K fd33 ["panes", "m", "r", "far"] [] := F33.bindsN fun _ _ _ _ _ _ us hl => match us, hl with | [_, _, _, _], _ => rfl
  obtain ⟨fd34, F34⟩ := c.def_ 41 (d := d34) rfl
  have g34 := He.glo_ok KX GX (c.fact 13 (f := .glo "_law_written") rfl)
  have bd34 : Binds K fd34 ["grids", "facts", "lists", "following"] [] := F34.bindsN fun _ _ _ _ _ _ us hl => match us, hl with | [_, _, _, _], _ => rfl
  obtain ⟨fd, FL⟩ := c.def_ 42 (d := d35) rfl
  have e := hfa.symm.trans (He.glo_ok KX GX (c.fact 14 (f := .glo "law") rfl))
  cases e
  have bL := FunD.bindsA (ps := ["script"]) FL fun _ _ _ _ _ _ us hl => match us, hl with | [_], _ => rfl
  refine ⟨fd, fun s v => bL s [v] rfl, fun base _ _ => ?_⟩
  have n0 : Knows P w K mg base (G (clK K)) c0 0 := Knows.start KX GX cx.l rfl rfl rfl
  have n1 : Knows P w K mg base (G (clK K)) c1 2 := Knows.mk' n0 (fn_sound (C := c0) F10_0 sc10_0 ir_Panes_init chk10_0 n0 blt (sp_Panes_init (clK K)) fun ws T Q X hw => pf_Panes_init (G (clK K))  ws T Q X hw) rfl g10_0 gc_Panes bd10_0
  have n2 : Knows P w K mg base (G (clK K)) c2 3 := Knows.meth n1 (fn_sound (C := c1) F10_1 sc10_1 ir_Panes_sheets_kept chk10_1 n1 blt (sp_Panes_sheets_kept (clK K)) fun ws T Q X hw => pf_Panes_sheets_kept (G (clK K))  ws T Q X hw) rfl cc_Panes g10_1 bd10_1
  have n3 : Knows P w K mg base (G (clK K)) c3 4 := Knows.meth n2 (fn_sound (C := c2) F10_2 sc10_2 ir_Panes_fact_of chk10_2 n2 blt (sp_Panes_fact_of (clK K)) fun ws T Q X hw => pf_Panes_fact_of (G (clK K)) (by show _ ∈ LK.ex; decide) ws T Q X hw) rfl cc_Panes g10_2 bd10_2
  have n4 : Knows P w K mg base (G (clK K)) c4 5 := Knows.meth n3 (fn_sound (C := c3) F10_3 sc10_3 ir_Panes_list_of chk10_3 n3 blt (sp_Panes_list_of (clK K)) fun ws T Q X hw => pf_Panes_list_of (G (clK K)) (by show _ ∈ LK.ex; decide) ws T Q X hw) rfl cc_Panes g10_3 bd10_3
  have n5 : Knows P w K mg base (G (clK K)) c5 6 := Knows.meth n4 (fn_sound (C := c4) F10_4 sc10_4 ir_Panes_told chk10_4 n4 blt (sp_Panes_told (clK K)) fun ws T Q X hw => pf_Panes_told (G (clK K)) rfl ws T Q X hw) rfl cc_Panes g10_4 bd10_4
  have n6 : Knows P w K mg base (G (clK K)) c6 7 := Knows.meth n5 (fn_sound (C := c5) F10_5 sc10_5 ir_Panes_inside chk10_5 n5 blt (sp_Panes_inside (clK K)) fun ws T Q X hw => pf_Panes_inside (G (clK K)) rfl ws T Q X hw) rfl cc_Panes g10_5 bd10_5
  have n7 : Knows P w K mg base (G (clK K)) c7 8 := Knows.meth n6 (fn_sound (C := c6) F10_6 sc10_6 ir_Panes_all_panes chk10_6 n6 blt (sp_Panes_all_panes (clK K)) fun ws T Q X hw => pf_Panes_all_panes (G (clK K))  ws T Q X hw) rfl cc_Panes g10_6 bd10_6
  have n8 : Knows P w K mg base (G (clK K)) c8 9 := Knows.meth n7 (fn_sound (C := c7) F10_7 sc10_7 ir_Panes_following chk10_7 n7 blt (sp_Panes_following (clK K)) fun ws T Q X hw => pf_Panes_following (G (clK K))  ws T Q X hw) rfl cc_Panes g10_7 bd10_7
  have n9 : Knows P w K mg base (G (clK K)) c9 10 := Knows.meth n8 (fn_sound (C := c8) F19_1 sc19_1 ir_Sheets_size_of chk19_1 n8 blt (sp_Sheets_size_of (clK K)) fun ws T Q X hw => pf_Sheets_size_of (G (clK K)) (by show _ ∈ LK.ex; decide) ws T Q X hw) rfl cc_Sheets g19_1 bd19_1
  have n10 : Knows P w K mg base (G (clK K)) c10 11 := Knows.meth n9 (fn_sound (C := c9) F10_8 sc10_8 ir_Panes_open_pane chk10_8 n9 blt (sp_Panes_open_pane (clK K)) fun ws T Q X hw => pf_Panes_open_pane (G (clK K)) rfl rfl (by show _ ∈ LK.ex; decide) ws T Q X hw) rfl cc_Panes g10_8 bd10_8
  have n11 : Knows P w K mg base (G (clK K)) c11 12 := Knows.meth n10 (fn_sound (C := c10) F10_9 sc10_9 ir_Panes_move chk10_9 n10 blt (sp_Panes_move (clK K)) fun ws T Q X hw => pf_Panes_move (G (clK K)) rfl ws T Q X hw) rfl cc_Panes g10_9 bd10_9
  have n12 : Knows P w K mg base (G (clK K)) c12 13 := Knows.meth n11 (fn_sound (C := c11) F10_10 sc10_10 ir_Panes_resize chk10_10 n11 blt (sp_Panes_resize (clK K)) fun ws T Q X hw => pf_Panes_resize (G (clK K)) rfl (by show _ ∈ LK.ex; decide) ws T Q X hw) rfl cc_Panes g10_10 bd10_10
  have n13 : Knows P w K mg base (G (clK K)) c13 14 := Knows.meth n12 (fn_sound (C := c12) F10_11 sc10_11 ir_Panes_scroll chk10_11 n12 blt (sp_Panes_scroll (clK K)) fun ws T Q X hw => pf_Panes_scroll (G (clK K)) rfl ws T Q X hw) rfl cc_Panes g10_11 bd10_11
  have n14 : Knows P w K mg base (G (clK K)) c14 15 := Knows.meth n13 (fn_sound (C := c13) F10_12 sc10_12 ir_Panes_turn chk10_12 n13 blt (sp_Panes_turn (clK K)) fun ws T Q X hw => pf_Panes_turn (G (clK K)) rfl rfl ws T Q X hw) rfl cc_Panes g10_12 bd10_12
  have n15 : Knows P w K mg base (G (clK K)) c15 16 := Knows.meth n14 (fn_sound (C := c14) F10_13 sc10_13 ir_Panes_lift chk10_13 n14 blt (sp_Panes_lift (clK K)) fun ws T Q X hw => pf_Panes_lift (G (clK K)) rfl rfl ws T Q X hw) rfl cc_Panes g10_13 bd10_13
  have n16 : Knows P w K mg base (G (clK K)) c16 17 := Knows.meth n15 (fn_sound (C := c15) F10_14 sc10_14 ir_Panes_sink chk10_14 n15 blt (sp_Panes_sink (clK K)) fun ws T Q X hw => pf_Panes_sink (G (clK K)) rfl rfl ws T Q X hw) rfl cc_Panes g10_14 bd10_14
  have n17 : Knows P w K mg base (G (clK K)) c17 18 := Knows.meth n16 (fn_sound (C := c16) F10_15 sc10_15 ir_Panes_put_over chk10_15 n16 blt (sp_Panes_put_over (clK K)) fun ws T Q X hw => pf_Panes_put_over (G (clK K)) rfl rfl (by show _ ∈ LK.ex; decide) ws T Q X hw) rfl cc_Panes g10_15 bd10_15
  have n18 : Knows P w K mg base (G (clK K)) c18 19 := Knows.meth n17 (fn_sound (C := c17) F10_16 sc10_16 ir_Panes_put_into chk10_16 n17 blt (sp_Panes_put_into (clK K)) fun ws T Q X hw => pf_Panes_put_into (G (clK K)) rfl rfl (by show _ ∈ LK.ex; decide) ws T Q X hw) rfl cc_Panes g10_16 bd10_16
  have n19 : Knows P w K mg base (G (clK K)) c19 20 := Knows.meth n18 (fn_sound (C := c18) F10_17 sc10_17 ir_Panes_hide chk10_17 n18 blt (sp_Panes_hide (clK K)) fun ws T Q X hw => pf_Panes_hide (G (clK K)) rfl ws T Q X hw) rfl cc_Panes g10_17 bd10_17
  have n20 : Knows P w K mg base (G (clK K)) c20 21 := Knows.meth n19 (fn_sound (C := c19) F10_18 sc10_18 ir_Panes_show chk10_18 n19 blt (sp_Panes_show (clK K)) fun ws T Q X hw => pf_Panes_show (G (clK K)) rfl ws T Q X hw) rfl cc_Panes g10_18 bd10_18
  have n21 : Knows P w K mg base (G (clK K)) c21 22 := Knows.meth n20 (fn_sound (C := c20) F10_19 sc10_19 ir_Panes_let_go chk10_19 n20 blt (sp_Panes_let_go (clK K)) fun ws T Q X hw => pf_Panes_let_go (G (clK K)) rfl rfl ws T Q X hw) rfl cc_Panes g10_19 bd10_19
  have n22 : Knows P w K mg base (G (clK K)) c22 23 := Knows.fn n21 (fn_sound (C := c21) F18 sc18 ir_cut_between chk18 n21 blt sp_cut_between fun ws T Q X hw => pf_cut_between (G (clK K))  ws T Q X hw) rfl g18 F18.kp bd18
  have n23 : Knows P w K mg base (G (clK K)) c23 25 := Knows.mk' n22 (fn_sound (C := c22) F19_0 sc19_0 ir_Sheets_init chk19_0 n22 blt (sp_Sheets_init (clK K)) fun ws T Q X hw => pf_Sheets_init (G (clK K))  ws T Q X hw) rfl g19_0 gc_Sheets bd19_0
  have n24 : Knows P w K mg base (G (clK K)) c24 26 := Knows.meth n23 (fn_sound (C := c23) F19_2 sc19_2 ir_Sheets_how_many chk19_2 n23 blt (sp_Sheets_how_many (clK K)) fun ws T Q X hw => pf_Sheets_how_many (G (clK K))  ws T Q X hw) rfl cc_Sheets g19_2 bd19_2
  have n25 : Knows P w K mg base (G (clK K)) c25 27 := Knows.meth n24 (fn_sound (C := c24) F19_3 sc19_3 ir_Sheets_make chk19_3 n24 blt (sp_Sheets_make (clK K)) fun ws T Q X hw => pf_Sheets_make (G (clK K)) (by show _ ∈ LK.ex; decide) ws T Q X hw) rfl cc_Sheets g19_3 bd19_3
  have n26 : Knows P w K mg base (G (clK K)) c26 28 := Knows.meth n25 (fn_sound (C := c25) F19_4 sc19_4 ir_Sheets_cells_met chk19_4 n25 blt (sp_Sheets_cells_met (clK K)) fun ws T Q X hw => pf_Sheets_cells_met (G (clK K)) rfl rfl ws T Q X hw) rfl cc_Sheets g19_4 bd19_4
  have n27 : Knows P w K mg base (G (clK K)) c27 29 := Knows.meth n26 (fn_sound (C := c26) F19_5 sc19_5 ir_Sheets_write chk19_5 n26 blt (sp_Sheets_write (clK K)) fun ws T Q X hw => pf_Sheets_write (G (clK K)) rfl ws T Q X hw) rfl cc_Sheets g19_5 bd19_5
  have n28 : Knows P w K mg base (G (clK K)) c28 30 := Knows.meth n27 (fn_sound (C := c27) F19_6 sc19_6 ir_Sheets_fill_v3 chk19_6 n27 blt (sp_Sheets_fill_v3 (clK K)) fun ws T Q X hw => pf_Sheets_fill_v3 (G (clK K)) rfl ws T Q X hw) rfl cc_Sheets g19_6 bd19_6
  have n29 : Knows P w K mg base (G (clK K)) c29 31 := Knows.meth n28 (fn_sound (C := c28) F19_8 sc19_8 ir_Sheets_rows_of chk19_8 n28 blt (sp_Sheets_rows_of (clK K)) fun ws T Q X hw => pf_Sheets_rows_of (G (clK K)) rfl ws T Q X hw) rfl cc_Sheets g19_8 bd19_8
  have n30 : Knows P w K mg base (G (clK K)) c30 32 := Knows.fn n29 (fn_sound (C := c29) F21 sc21 ir_sheet_rows chk21 n29 blt (sp_sheet_rows (clK K)) fun ws T Q X hw => pf_sheet_rows (G (clK K)) rfl rfl rfl ws T Q X hw) rfl g21 F21.kp bd21
  have n31 : Knows P w K mg base (G (clK K)) c31 33 := Knows.fn n30 (fn_sound (C := c30) F22 sc22 ir_pane_row chk22 n30 blt sp_pane_row fun ws T Q X hw => pf_pane_row (G (clK K))  ws T Q X hw) rfl g22 F22.kp bd22
  have n32 : Knows P w K mg base (G (clK K)) c32 34 := Knows.fn n31 (fn_sound (C := c31) F23 sc23 ir_show_panes chk23 n31 blt (sp_show_panes (clK K)) fun ws T Q X hw => pf_show_panes (G (clK K)) rfl rfl rfl rfl rfl rfl rfl rfl ws T Q X hw) rfl g23 F23.kp bd23
  have n33 : Knows P w K mg base (G (clK K)) c33 35 := Knows.fn n32 (fn_sound (C := c32) F25 sc25 ir_law_draws chk25 n32 blt sp_law_draws fun ws T Q X hw => pf_law_draws (G (clK K))  ws T Q X hw) rfl g25 F25.kp bd25
  have n34 : Knows P w K mg base (G (clK K)) c34 36 := Knows.fn n33 (fn_sound (C := c33) F26 sc26 ir_law_sign_v2 chk26 n33 blt sp_law_sign_v2 fun ws T Q X hw => pf_law_sign_v2 (G (clK K))  ws T Q X hw) rfl g26 F26.kp bd26
  have n35 : Knows P w K mg base (G (clK K)) c35 37 := Knows.fn n34 (fn_sound (C := c34) F27 sc27 ir_law_begun chk27 n34 blt (sp_law_begun (clK K)) fun ws T Q X hw => pf_law_begun (G (clK K)) rfl rfl rfl rfl ws T Q X hw) rfl g27 F27.kp bd27
  have n36 : Knows P w K mg base (G (clK K)) c36 38 := Knows.fn n35 (fn_sound (C := c35) F28 sc28 ir_law_opened chk28 n35 blt (sp_law_opened (clK K)) fun ws T Q X hw => pf_law_opened (G (clK K)) rfl ws T Q X hw) rfl g28 F28.kp bd28
  have n37 : Knows P w K mg base (G (clK K)) c37 39 := Knows.fn n36 (fn_sound (C := c36) F29 sc29 ir_law_within_v2 chk29 n36 blt sp_law_within_v2 fun ws T Q X hw => pf_law_within_v2 (G (clK K))  ws T Q X hw) rfl g29 F29.kp bd29
  have n38 : Knows P w K mg base (G (clK K)) c38 40 := Knows.fn n37 (fn_sound (C := c37) F30 sc30 ir_law_ordered_v2 chk30 n37 blt (sp_law_ordered_v2 (clK K)) fun ws T Q X hw => pf_law_ordered_v2 (G (clK K)) rfl rfl rfl rfl rfl ws T Q X hw) rfl g30 F30.kp bd30
  have n39 : Knows P w K mg base (G (clK K)) c39 41 := Knows.fn n38 (fn_sound (C := c38) F31 sc31 ir_law_gone_v2 chk31 n38 blt (sp_law_gone_v2 (clK K)) fun ws T Q X hw => pf_law_gone_v2 (G (clK K)) rfl rfl ws T Q X hw) rfl g31 F31.kp bd31
  have n40 : Knows P w K mg base (G (clK K)) c40 42 := Knows.fn n39 (fn_sound (C := c39) F32 sc32 ir_law_met_v2 chk32 n39 blt (sp_law_met_v2 (clK K)) fun ws T Q X hw => pf_law_met_v2 (G (clK K)) rfl rfl rfl rfl rfl ws T Q X hw) rfl g32 F32.kp bd32
  have n41 : Knows P w K mg base (G (clK K)) c41 43 := Knows.fn n40 (fn_sound (C := c40) F33 sc33 ir_law_deed_v6 chk33 n40 blt (sp_law_deed_v6 (clK K)) fun ws T Q X hw => pf_law_deed_v6 (G (clK K)) rfl rfl rfl rfl rfl rfl rfl rfl rfl rfl ws T Q X hw) rfl g33 F33.kp bd33
  have n42 : Knows P w K mg base (G (clK K)) c42 44 := Knows.fn n41 (fn_sound (C := c41) F34 sc34 ir_law_written chk34 n41 blt (sp_law_written (clK K)) fun ws T Q X hw => pf_law_written (G (clK K))  ws T Q X hw) rfl g34 F34.kp bd34
  exact fn_sound (C := c42) FL sc35 ir_law_v38 chk35 n42 blt sp_law fun ws T Q X hw => pf_law_v38 (G (clK K)) rfl rfl rfl rfl rfl rfl rfl ws T Q X hw
end M3L
open PySem PySem.W PySem.Calls PyProof.Rows
theorem PySem.Challenge.cw_panelook_k42_written_holds : PySem.Challenge.rw_panelook_k42_written.Holds := by
  w_on
  o_law
  refine HandSHeadRun.head_any (r := OpenLaw.row PySem.Challenge.rw_panelook_k42_written) (q := view (OpenLaw.row PySem.Challenge.rw_panelook_k42_written).prog [35]) (H := M3L.hk) (ob := M3L.ob) (M := 5000) (loose := M3L.loose) (d := HandSHeadRun.topDef (OpenLaw.row PySem.Challenge.rw_panelook_k42_written).prog 35) (kwd := []) M3L.obE
    (by kernel_rfl) (fun s => by kernel_rfl) M3L.run (by kernel_rfl) (by kernel_rfl) (by kernel_rfl) (by rfl) (by first | assumption | decide +kernel) (by decide +kernel) ⟨rfl, rfl, rfl, rfl, rfl, by decide +kernel⟩ ?hw ?hc
  case hw => w_witness2
  case hc =>
    refine M3.walk_law (l := PySem.Challenge.rw_panelook_k42_written) (k := 45) (x := "script") (m := M3.sp_law) rfl (by kernel_rfl) ⟨rfl, by decide, by decide⟩ M3.lawSp_law ?F
    intro w mg fa h Y GX hmg0
    obtain ⟨K, KX, c⟩ := Y
    have hmg : mg ("law" : PySem.Str) = some (.ref fa) := by
      have e : (HandSHeadRun.topDef (OpenLaw.row PySem.Challenge.rw_panelook_k42_written).prog 35).name = ("law" : PySem.Str) := by kernel_rfl
      rw [← e]
      exact hmg0
    obtain ⟨fd, hb, hF⟩ := M3L.facts (P := (PySem.Challenge.rw_panelook_k42_written).prog) (w := w) KX GX hmg c
    exact ⟨K, fd, KX, hb, hF⟩
