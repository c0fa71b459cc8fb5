import PyProof.Rows.All
import Wide.All
import OpenK.AllK
import Wide.FinOn
import KE.KStateDown
import KE.KDictCopyH
import HandS.RaiseMore
import HandS.ForMost
import HandS.ForExc
import HandS.Defaults
import HandS.Head0
import HandS.Head1
import HandS.Head2
import HandS.HeadEnd
import HandS.HeadHook1
import HandS.HeadHook2
import HandS.EndBits
import HandS.Wide
import HandS.IsInst
import HandS.SortInts
import HandS.SortRule
import HandS.TupAny
import HandS.Style
import HandS.TupLe
import HandS.Conv
import HandS.Flow
import HandS.CallSlots
import HandS.Zip
import HandS.Deep
import HandS.Set
import HandS.Strs
import HandS.SetFor
import PyProof.StrBlock2
import HandS.TupMul
import HandS.ExcIs
import HandS.SetKeys
import HandS.More
import HandS.Small
import KE.SortData
import KE.KDictKeyed
import KE.KeyNested
import HandS.NoneIn
import HandS.DictEq
import HandS.Codes
import PySem.Challenge.RW_panelook_k01_which_are_regions
set_option Elab.async false
set_option linter.all false
set_option maxRecDepth 100000
set_option maxHeartbeats 4000000
namespace M3
open PySem PySem.Spec PyProof.Rows L2
def subX (n c : Nat) : Bool := c == 0 || n == c
def nmX : Nat → Str
  | 0 => "LookError"
  | 1 => "NoSize"
  | 2 => "NoSheet"
  | 3 => "NoCount"
  | 4 => "NoPane"
  | 5 => "NoBrother"
  | 6 => "NoParent"
  | 7 => "NoText"
  | 10 => "Sheets"
  | 11 => "Panes"
  | 12 => "Viewer"
  | 13 => "Pointer"
  | _ => ""
def clK (K : PySem.W.Frag) (n : Nat) : Addr := He.ga K (nmX n)
def excB (K : PySem.W.Frag) (D : Addr) : Bool :=
  He.eqO (PySem.W.findIn K (.ref D) "__getattribute__") (some (some (.builtin "BaseException.__getattribute__"))) && (He.eqO (PySem.W.findIn K (.ref D) "__getattr__") (some none) &&
  (decide (PySem.W.subIn K (.ref D) (.type "BaseException") = some true) && (PySem.W.hasDictIn K D && (He.eqO (PySem.W.findIn K (.ref D) "__class__") (some (some (.builtin "object.__class__"))) &&
  (He.eqO (PySem.W.specialIn K (.builtin "object.__class__") "__get__") (some (some (.builtin "getset_descriptor.__get__"))) && (decide (PySem.W.takesIn K (.builtin "object.__class__") = some true) && decide (PySem.W.mroIn K D (.type "object") = some true)))))))
def glsB (K : PySem.W.Frag) (x : Str) : Key → Bool
  | .inl i => (He.Fa.int x i).ok K
  | .inr z => (He.Fa.str x z).ok K
def fldB (K : PySem.W.Frag) (p : Nat × Str) : Bool := (He.Fa.cls (nmX p.1)).ok K && (He.Fa.noat (nmX p.1) p.2).ok K
def exB (K : PySem.W.Frag) (p : Nat × Str) : Bool := decide (p.2 = nmX p.1) && ((He.Fa.glo (nmX p.1)).ok K && ((He.Fa.exc (nmX p.1)).ok K && (excB K (clK K p.1) && decide (PySem.W.kitOne K (.ref (clK K p.1)) (.type "ValueError") = some true))))
def exxB (K : PySem.W.Frag) (p q : Nat × Str) : Bool := decide (PySem.W.exmOne K (.ref (clK K p.1)) (.ref (clK K q.1)) = some (subX p.1 q.1)) && decide (PySem.W.kitOne K (.ref (clK K p.1)) (.ref (clK K q.1)) = some (subX p.1 q.1))
def valB : Key → Value → Bool
  | .inl i, .int j _ => decide (i = j)
  | .inr x, .str y _ => decide (x = y)
  | _, _ => false
def valsB : List Key → List Value → Bool
  | [], [] => true
  | k :: r, v :: t => valB k v && valsB r t
  | _, _ => false
def gltK (K : PySem.W.Frag) (x : Str) (ks : List Key) : Bool := (He.Fa.glo x).ok K && (match K.lookup (He.ga K x) with
  | some o => decide (o.cls = .type "tuple") && (match o.data with
    | .seq its _ => decide (its.size ≤ 1000) && valsB ks its.toList
    | _ => false)
  | none => false)
def iclB (K : PySem.W.Frag) (p : Nat × Str) : Bool := decide (p.2 = nmX p.1) && ((He.Fa.glo (nmX p.1)).ok K && ((He.Fa.cls (nmX p.1)).ok K && (He.eqO (PySem.W.findIn K (.ref (clK K p.1)) "__class__") (some (some (.builtin "object.__class__"))) &&
  (He.eqO (PySem.W.specialIn K (.builtin "object.__class__") "__get__") (some (some (.builtin "getset_descriptor.__get__"))) && (decide (PySem.W.takesIn K (.builtin "object.__class__") = some true) && (decide (PySem.W.mroIn K (clK K p.1) (.type "object") = some true) && decide (PySem.W.kitOne K (.ref (clK K p.1)) (.ref (clK K p.1)) = some true)))))))
structure Look where
  fld : List (Nat × Str) := []
  exc : List (Nat × Str) := []
  gls : List (Str × Key) := []
  glt : List (Str × List Key) := []
  icl : List (Nat × Str) := []
def Look.ex (L : Look) : List Nat := L.exc.map (·.1)
def Look.ok (L : Look) (K : PySem.W.Frag) : Bool := L.fld.all (fldB K) && (L.exc.all (exB K) && (L.exc.all (fun p => L.exc.all (exxB K p)) && (L.gls.all (fun p => glsB K p.1 p.2) && (L.glt.all (fun p => gltK K p.1 p.2) && L.icl.all (iclB K)))))
abbrev AlX : Type := Bool × He.AlD
def obsX (L : Look) (fa : List He.Fa) (fn : List He.DefD) (K : PySem.W.Frag) : AlX := (L.ok K, He.obsD fa fn K)
def valX (fn : List He.DefD) : AlX := (true, He.valD fn)
def SaysX (L : Look) (fa : List He.Fa) (fn : List He.DefD) (K : PySem.W.Frag) : Prop := obsX L fa fn K = valX fn
end M3
namespace M3L
open PySem PySem.Spec PyProof.Rows L2 M3
def top (i : Nat) : Stmt := PySem.Challenge.pw_panelook_k01_which_are_regions.main.body.getD i (.Pass ⟨0, 0, 0, 0⟩)
def LK : Look := { fld := [], exc := [], gls := [] }
abbrev s1 : Stmt := top 1
def d1 : He.DefD := ⟨("is_whole", none), "is_whole", "is_whole", defArgs s1, defBody s1, defScope s1, [], []⟩
abbrev s2 : Stmt := top 2
def d2 : He.DefD := ⟨("is_stretch", none), "is_stretch", "is_stretch", defArgs s2, defBody s2, defScope s2, [], []⟩
abbrev s3 : Stmt := top 3
def d3 : He.DefD := ⟨("are_spans", none), "are_spans", "are_spans", defArgs s3, defBody s3, defScope s3, [], []⟩
abbrev s4 : Stmt := top 4
def d4 : He.DefD := ⟨("is_region", none), "is_region", "is_region", defArgs s4, defBody s4, defScope s4, [], []⟩
abbrev s6 : Stmt := top 6
def d6 : He.DefD := ⟨("_law_tap", none), "_law_tap", "_law_tap", defArgs s6, defBody s6, defScope s6, [], []⟩
abbrev s7 : Stmt := top 7
def d7 : He.DefD := ⟨("_law_next", none), "_law_next", "_law_next", defArgs s7, defBody s7, defScope s7, [], []⟩
abbrev s8 : Stmt := top 8
def d8 : He.DefD := ⟨("_law_place", none), "_law_place", "_law_place", defArgs s8, defBody s8, defScope s8, [], []⟩
abbrev s9 : Stmt := top 9
def d9 : He.DefD := ⟨("_law_spans", none), "_law_spans", "_law_spans", defArgs s9, defBody s9, defScope s9, [], []⟩
abbrev s10 : Stmt := top 10
def d10 : He.DefD := ⟨("_law_region", none), "_law_region", "_law_region", defArgs s10, defBody s10, defScope s10, [], []⟩
abbrev s11 : Stmt := top 11
def d11 : He.DefD := ⟨("_law_any", none), "_law_any", "_law_any", defArgs s11, defBody s11, defScope s11, [], []⟩
abbrev s12 : Stmt := top 12
def d12 : He.DefD := ⟨("_law_whole", none), "_law_whole", "_law_whole", defArgs s12, defBody s12, defScope s12, [], []⟩
abbrev s13 : Stmt := top 13
def d13 : He.DefD := ⟨("_law_are_spans", none), "_law_are_spans", "_law_are_spans", defArgs s13, defBody s13, defScope s13, [], []⟩
abbrev s14 : Stmt := top 14
def d14 : He.DefD := ⟨("_law_is_region", none), "_law_is_region", "_law_is_region", defArgs s14, defBody s14, defScope s14, [], []⟩
abbrev s15 : Stmt := top 15
def d15 : He.DefD := ⟨("_law_deep", none), "_law_deep", "_law_deep", defArgs s15, defBody s15, defScope s15, [], []⟩
abbrev s16 : Stmt := top 16
def d16 : He.DefD := ⟨("_law_other", none), "_law_other", "_law_other", defArgs s16, defBody s16, defScope s16, [], []⟩
abbrev s17 : Stmt := top 17
def d17 : He.DefD := ⟨("_law_spoilt", none), "_law_spoilt", "_law_spoilt", defArgs s17, defBody s17, defScope s17, [], []⟩
abbrev s18 : Stmt := top 18
def d18 : He.DefD := ⟨("_law_right", none), "_law_right", "_law_right", defArgs s18, defBody s18, defScope s18, [], []⟩
abbrev s19 : Stmt := top 19
def d19 : He.DefD := ⟨("law", none), "law", "law", defArgs s19, defBody s19, defScope s19, [], []⟩
def fn_0 : List He.DefD := [d1, d2, d3, d4, d6, d7, d8, d9, d10, d11, d12, d13, d14, d15, d16, d17, d18, d19]
def fn : List He.DefD := fn_0
def fa_0 : List He.Fa := [.glo "is_whole", .glo "is_stretch", .glo "are_spans", .glo "is_region", .glo "_law_tap", .glo "_law_next", .glo "_law_place", .glo "_law_spans", .glo "_law_region", .glo "_law_any", .glo "_law_whole", .glo "_law_are_spans", .glo "_law_is_region", .glo "_law_deep", .glo "_law_other", .glo "_law_spoilt", .glo "_law_right", .glo "law", .free "len", .free "max", .free "min", .free "range", .free "zip", .free "enumerate", .free "tuple", .free "list", .free "sum", .free "any", .free "all", .free "sorted"]
def fa_1 : List He.Fa := [.free "set", .free "isinstance", .free "int", .free "bool", .free "str", .free "abs", .free "dict", .free "ValueError"]
def fa : List He.Fa := fa_0 ++ fa_1
def loose_0 : List PySem.Str := ["__name__", "is_whole", "is_stretch", "are_spans", "is_region", "_law_tap", "_law_next", "_law_place", "_law_spans", "_law_region", "_law_any", "_law_whole", "_law_are_spans", "_law_is_region", "_law_deep", "_law_other", "_law_spoilt", "_law_right"]
def loose : List PySem.Str := loose_0
abbrev R : PySem.W.OpenRow := PySem.W.OpenLaw.row PySem.Challenge.rw_panelook_k01_which_are_regions
def obsL (as : List Addr) (L : Look) (fa : List He.Fa) (fn : List He.DefD) (g : Addr → Option Obj) : AlX := obsX L fa fn (He.frG g as)
def hookL (as : List Addr) (L : Look) (fa : List He.Fa) (fn : List He.DefD) : PySem.W.Hook where
  α := AlX
  obs := fun s => obsL as L fa fn s.heap.get?
  val := fun _ => valX fn
  says := fun _ h => ∃ K : PySem.W.Frag, K.In h ∧ SaysX L fa fn K
  of := fun _ _ e => ⟨_, He.frG_in, e⟩
  keeps := fun _ _ _ ⟨K, hK, c⟩ k => ⟨K, PySem.W.Frag.In.keeps hK k, c⟩
theorem obsL_eq {as : List Addr} {L : Look} {fa : List He.Fa} {fn : List He.DefD} {g : Addr → Option Obj} {s : Shared} (h : ∀ a, g a = s.heap.get? a) : obsL as L fa fn g = (hookL as L fa fn).obs s := by
  have e : g = s.heap.get? := funext h
  rw [e] <;> rfl
def asL : List Addr := [3, 6, 4, 21, 28, 35, 42, 49, 56, 63, 70, 77, 82, 89, 96, 103, 110, 117, 124, 131, 138, 0, 20, 27, 34, 41, 48, 55, 62, 69, 76, 81, 88, 95, 102, 109, 116, 123, 130, 137, 15, 16, 17, 18, 19, 22, 23, 24, 25, 26, 29, 30, 31, 32, 33, 36, 37, 38, 39, 40, 43, 44, 45, 46, 47, 50, 51, 52, 53, 54, 57, 58, 59, 60, 61, 64, 65, 66, 67, 68, 71, 72, 73, 74, 75, 78, 79, 80, 83, 84, 85, 86, 87, 90, 91, 92, 93, 94, 97, 98, 99, 100, 101, 104, 105, 106, 107, 108, 111, 112, 113, 114, 115, 118, 119, 120, 121, 122, 125, 126, 127, 128, 129, 132, 133, 134, 135, 136]
abbrev hk : PySem.W.Hook := hookL asL LK fa fn
def ob (s : PySem.W.SharedT) : AlX := obsL asL LK fa fn (HandSHeadRun.getT s)
theorem obE (s : PySem.W.SharedT) : ob s = hk.obs s.abs :=
  obsL_eq (HandSHeadRun.getT_eq s)
theorem run (w : World) : HandSHeadRun.RunEq R (PySem.W.view R.prog [19]) hk ob 3000 loose w := by
  intro os
  kernel_rfl
end M3L
namespace M3
open PySem PySem.Spec PyProof.Rows L2
section
variable {prog : Program} {w : World} {A : Around} {E : Value → Shared → Prop} {s : Shared}
abbrev NEnt := NestedKey × Value × Value
def nent (w : World) (x : NEnt) : DictEntry := ⟨x.1.hash w, x.2.1, x.2.2⟩
def NIs (h : Heap) (k : NestedKey) (v : Value) : Prop := NestedIs h k v ∧ k.depth ≤ 8
theorem places_mem {n i : Nat} {f : Nat → Option Int} {h : Int} : i ∈ placesWithHash n f h ↔ i < n ∧ f i = some h := by
  unfold placesWithHash
  rw [List.mem_filter, List.mem_range, beq_iff_eq]
theorem places_nd {n : Nat} {f : Nat → Option Int} {h : Int} : (placesWithHash n f h).Nodup := List.Nodup.sublist List.filter_sublist List.nodup_range
theorem nk_unique {xs : List NEnt} (nd : (xs.map (·.1)).Nodup) {i j : Nat} {x y : NEnt} (hi : xs[i]? = some x) (hj : xs[j]? = some y) (e : x.1 = y.1) : i = j := by
  have a : (xs.map (·.1))[i]? = some x.1 := by rw [List.getElem?_map, hi]; rfl
  have b : (xs.map (·.1))[j]? = some x.1 := by rw [List.getElem?_map, hj, e]; rfl
  exact (List.getElem?_inj (List.getElem?_eq_some_iff.mp a).1 nd).mp (a.trans b.symm)
structure NFind (s : Shared) (w : World) (d : Addr) (o : Obj) (es : Array DictEntry) (ep : Nat) (xs : List NEnt) (k : NestedKey) (v : Value) : Prop where
  ho : s.heap.get? d = some o
  hd : o.data = .dict es ep
  he : es.toList = xs.map (nent w)
  is : ∀ x ∈ xs, NIs s.heap x.1 x.2.1
  nd : (xs.map (·.1)).Nodup
  key : NIs s.heap k v
theorem NFind.at {d : Addr} {o : Obj} {es : Array DictEntry} {ep : Nat} {xs : List NEnt} {k : NestedKey} {v : Value} (F : NFind s w d o es ep xs k v) (j : Nat) : es[j]? = (xs[j]?).map (nent w) := by
  rw [← Array.getElem?_toList, F.he, List.getElem?_map]
theorem NFind.eq {d : Addr} {o : Obj} {es : Array DictEntry} {ep : Nat} {xs : List NEnt} {k : NestedKey} {v : Value} (F : NFind s w d o es ep xs k v) (hu : A.units + 8 < cLine) {x : NEnt} (hx : x ∈ xs) {Q : Bool → Shared → Prop} (hq : Q (decide (x.1 = k)) s) : wpAny (model prog w) A (eqBool x.2.1 v) Q E s := by
  have a := F.is x hx
  have b := F.key
  exact eqAt_key x.1 k A s _ _ a.1 b.1 (by have := a.2; omega) prog w E Q (by rw [← NestedKey.decide_eq]; exact hq)
theorem NFind.place {d : Addr} {o : Obj} {es : Array DictEntry} {ep : Nat} {xs : List NEnt} {k : NestedKey} {v : Value} (F : NFind s w d o es ep xs k v) {i : Nat} (hi : i ∈ placesWithHash es.size (fun i => es[i]?.map (·.hash)) (k.hash w)) : ∃ x, xs[i]? = some x ∧ x ∈ xs ∧ es[i]? = some ⟨k.hash w, x.2.1, x.2.2⟩ := by
  obtain ⟨h1, h2⟩ := places_mem.mp hi
  rw [F.at] at h2
  cases hx : xs[i]? with
  | none => rw [hx] at h2; cases h2
  | some x =>
    rw [hx] at h2
    have e : x.1.hash w = k.hash w := Option.some.inj h2
    refine ⟨x, rfl, List.mem_of_getElem? hx, ?_⟩
    rw [F.at, hx]
    show some (nent w x) = _
    unfold nent
    rw [e]
theorem NFind.hit {d : Addr} {o : Obj} {es : Array DictEntry} {ep : Nat} {xs : List NEnt} {k : NestedKey} {v : Value} (F : NFind s w d o es ep xs k v) {i : Nat} {x : NEnt} (hx : xs[i]? = some x) (e : x.1 = k) : i ∈ placesWithHash es.size (fun i => es[i]?.map (·.hash)) (k.hash w) := by
  refine places_mem.mpr ⟨?_, ?_⟩
  · have := (List.getElem?_eq_some_iff.mp hx).1
    have l : es.size = xs.length := by rw [← Array.length_toList, F.he, List.length_map]
    omega
  · rw [F.at, hx, ← e]; rfl
theorem NFind.plain {d : Addr} {o : Obj} {es : Array DictEntry} {ep : Nat} {xs : List NEnt} {k : NestedKey} {v : Value} {Q : Option Nat → Shared → Prop} (F : NFind s w d o es ep xs k v) (hu : A.units + 8 < cLine)
    (h0 : (∀ x ∈ xs, x.1 ≠ k) → Q none s) (h1 : ∀ (j : Nat) (x : NEnt), xs[j]? = some x → x.1 = k → Q (some j) s) : wpAny (model prog w) A (dictWalkPlain d v (k.hash w) es (placesWithHash es.size (fun i => es[i]?.map (·.hash)) (k.hash w))) Q E s := by
  generalize hP : placesWithHash es.size (fun i => es[i]?.map (·.hash)) (k.hash w) = P
  unfold dictWalkPlain
  refine wpAny_bind (wpAny_forIn_list _ (fun rest b s' => s' = s ∧ b = (none, ()) ∧ ∃ done, P = done ++ rest ∧ ∀ (j : Nat) (x : NEnt), j ∈ done → xs[j]? = some x → x.1 ≠ k) _ ?_ ?_ _ _ ⟨rfl, rfl, [], rfl, fun _ _ h => by cases h⟩)
  · rintro i rest b s' ⟨rfl, rfl, done, hsp, hno⟩
    obtain ⟨x, hx, hm, ex⟩ := F.place (i := i) (by rw [hP, hsp]; simp)
    rw [ex]
    dsimp only
    rw [if_pos (by simp)]
    refine wpAny_bind (wpAny_dictEpoch F.ho F.hd (wpAny_bind (F.eq hu hm (wpAny_bind (wpAny_dictEpoch F.ho F.hd ?_)))))
    rw [if_neg (by simp)]
    by_cases c : x.1 = k
    · rw [decide_eq_true c, if_pos rfl]
      exact wpAny_bind (wpAny_rule (wpAny_pure (wpAny_pure (h1 i x hx c))))
    · rw [decide_eq_false c, if_neg (by decide)]
      refine wpAny_bind (wpAny_rule (wpAny_pure ⟨rfl, rfl, done ++ [i], by rw [hsp]; simp, fun j y hj hy => ?_⟩))
      rcases List.mem_append.mp hj with hj | hj
      · exact hno j y hj hy
      · rw [List.mem_singleton.mp hj, hx] at hy
        cases hy
        exact c
  · rintro b s' ⟨rfl, rfl, done, hsp, hno⟩
    refine wpAny_pure (h0 fun x hx e => ?_)
    obtain ⟨j, hj⟩ := List.mem_iff_getElem?.mp hx
    have := F.hit hj e
    rw [hP, hsp, List.append_nil] at this
    exact hno j x this hj e
theorem NFind.quiet {d : Addr} {o : Obj} {es : Array DictEntry} {ep : Nat} {xs : List NEnt} {k : NestedKey} {v : Value} {Q : Bool → Shared → Prop} (F : NFind s w d o es ep xs k v) {l : List Value} (hl : ∀ u ∈ l, ∃ x ∈ xs, x.2.1 = u) (h : Q false s) : wpAny (model prog w) A (tableMayTell v l) Q E s := by
  unfold tableMayTell
  split
  · exact wpAny_pure h
  refine wpAny_bind (quiet_key k v 8 s F.key.1 F.key.2 A E _ ?_)
  rw [if_neg (by decide)]
  refine wpAny_bind (wpAny_forIn_list _ (fun rest r s' => s' = s ∧ r = (none, ()) ∧ ∀ u ∈ rest, ∃ x ∈ xs, x.2.1 = u) _ ?_ ?_ _ _ ⟨rfl, rfl, hl⟩)
  · rintro u rest r s' ⟨rfl, rfl, hr⟩
    obtain ⟨x, hx, rfl⟩ := hr u (List.mem_cons_self ..)
    refine wpAny_bind (quiet_key x.1 x.2.1 8 s' (F.is x hx).1 (F.is x hx).2 A E _ ?_)
    rw [if_neg (by decide)]
    exact wpAny_pure ⟨rfl, rfl, fun u hu => hr u (List.mem_cons_of_mem _ hu)⟩
  · rintro r s' ⟨rfl, rfl, _⟩
    exact wpAny_pure h
theorem NFind.find {d : Addr} {o : Obj} {es : Array DictEntry} {ep : Nat} {xs : List NEnt} {k : NestedKey} {v : Value} {Q : Option Nat → Shared → Prop} (F : NFind s w d o es ep xs k v) (hv : ∀ x t, v ≠ .str x t) (hu : A.units + 8 < cLine)
    (h0 : (∀ x ∈ xs, x.1 ≠ k) → Q none s) (h1 : ∀ (j : Nat) (x : NEnt), xs[j]? = some x → x.1 = k → Q (some j) s) : wpAny (model prog w) A (dictFind d v (k.hash w)) Q E s := by
  have st : ∀ u ∈ (placesWithHash es.size (fun i => es[i]?.map (·.hash)) (k.hash w)).filterMap (fun i => es[i]?.map (·.key)), ∃ x ∈ xs, x.2.1 = u := fun u hu => by
    obtain ⟨i, hi, e⟩ := List.mem_filterMap.mp hu
    obtain ⟨x, _, hm, ex⟩ := F.place hi
    rw [ex] at e
    exact ⟨x, hm, Option.some.inj e⟩
  unfold dictFind
  refine wpAny_holding (wpAny_bind (wpAny_dictEntries F.ho F.hd ?_))
  dsimp only
  split
  · exact absurd rfl (hv _ _)
  by_cases hall : ((v :: (placesWithHash es.size (fun i => es[i]?.map (·.hash)) (k.hash w)).filterMap (fun i => es[i]?.map (·.key))).all carriedByValue) = true
  · rw [if_pos hall]
    exact F.plain hu h0 h1
  rw [if_neg hall]
  have hany : ¬ (es.any fun e => e.key == v && e.hash != k.hash w) = true := fun z => by
    rw [← Array.any_toList, F.he, List.any_eq_true] at z
    obtain ⟨e, he, c⟩ := z
    obtain ⟨x, hx, rfl⟩ := List.mem_map.mp he
    have c1 := Bool.and_eq_true_iff.mp c
    have e1 : x.2.1 = v := by simpa [nent] using c1.1
    have a := (F.is x hx).1
    rw [e1] at a
    have e2 := NestedIs.inj _ _ _ a F.key.1
    have : (nent w x).hash = k.hash w := by rw [← e2]; rfl
    rw [this] at c1
    simp at c1
  have nd := places_nd (n := es.size) (f := fun i => es[i]?.map (·.hash)) (h := k.hash w)
  have hP : ∀ i, i ∈ placesWithHash es.size (fun i => es[i]?.map (·.hash)) (k.hash w) → ∃ x, xs[i]? = some x ∧ x ∈ xs ∧ es[i]? = some ⟨k.hash w, x.2.1, x.2.2⟩ := fun i h => F.place h
  have hH : ∀ (i : Nat) (x : NEnt), xs[i]? = some x → x.1 = k → i ∈ placesWithHash es.size (fun i => es[i]?.map (·.hash)) (k.hash w) := fun i x h e => F.hit h e
  generalize placesWithHash es.size (fun i => es[i]?.map (·.hash)) (k.hash w) = P at *
  split <;> (first | rw [if_neg hany] | skip) <;> (
    split <;> (first | refine wpAny_bind (wpAny_pure ?_) | refine wpAny_bind (F.quiet st ?_)) <;> (
      rw [if_neg (by simp)]
      refine wpAny_bind (wpAny_forIn_list _ (fun rest b s' => s' = s ∧ ∃ done hit, b = (none, hit) ∧ P = done ++ rest ∧ ((hit = none ∧ ∀ (j : Nat) (x : NEnt), j ∈ done → xs[j]? = some x → x.1 ≠ k) ∨ ∃ (j : Nat) (x : NEnt), hit = some j ∧ j ∈ done ∧ xs[j]? = some x ∧ x.1 = k)) _ ?_ ?_ _ _ ⟨rfl, [], none, rfl, rfl, .inl ⟨rfl, fun _ _ h => by cases h⟩⟩)
      · rintro i rest b s' ⟨rfl, done, hit, rfl, hsp, hh⟩
        obtain ⟨x, hx, hm, ex⟩ := hP i (by rw [hsp]; simp)
        have hni : i ∉ done := fun z => by
          rw [hsp] at nd
          exact (List.nodup_append.mp nd).2.2 i z i (List.mem_cons_self ..) rfl
        rw [ex]
        dsimp only
        rw [if_pos (by simp)]
        refine wpAny_bind (wpAny_dictEpoch F.ho F.hd (wpAny_bind (F.eq hu hm (wpAny_bind (wpAny_dictEpoch F.ho F.hd ?_)))))
        rw [if_neg (by simp)]
        by_cases c : x.1 = k
        · rw [decide_eq_true c, if_pos rfl]
          rcases hh with ⟨rfl, hno⟩ | ⟨j, y, rfl, hj, hy, e⟩
          · rw [if_neg (by decide)]
            refine wpAny_bind (wpAny_rule ?_)
            split
            · exact wpAny_pure (wpAny_pure (h1 i x hx c))
            · exact wpAny_pure ⟨rfl, done ++ [i], some i, rfl, by rw [hsp]; simp, .inr ⟨i, x, rfl, by simp, hx, c⟩⟩
          · exact absurd (nk_unique F.nd hx hy (c.trans e.symm)) fun z => hni (z ▸ hj)
        · rw [decide_eq_false c, if_neg (by decide)]
          refine wpAny_bind (wpAny_rule ?_)
          rw [if_neg (by simp)]
          refine wpAny_pure ⟨rfl, done ++ [i], hit, rfl, by rw [hsp]; simp, ?_⟩
          rcases hh with ⟨rfl, hno⟩ | ⟨j, y, rfl, hj, hy, e⟩
          · refine .inl ⟨rfl, fun j y hj hy => ?_⟩
            rcases List.mem_append.mp hj with hj | hj
            · exact hno j y hj hy
            · rw [List.mem_singleton.mp hj, hx] at hy
              cases hy
              exact c
          · exact .inr ⟨j, y, rfl, List.mem_append_left _ hj, hy, e⟩
      · rintro b s' ⟨rfl, done, hit, rfl, hsp, hh⟩
        rw [List.append_nil] at hsp
        rcases hh with ⟨rfl, hno⟩ | ⟨j, y, rfl, hj, hy, e⟩
        · refine wpAny_pure (h0 fun x hx e => ?_)
          obtain ⟨j, hj⟩ := List.mem_iff_getElem?.mp hx
          exact hno j x (hsp ▸ hH j x hj e) hj e
        · exact wpAny_pure (h1 j y hy e)))
abbrev NK := Option (List Int)
abbrev NX := NK × Value × Value
def nkN : NK → NestedKey
  | none => .none
  | some is => .tup (is.map .num)
def nx2 (x : NX) : NEnt := (nkN x.1, x.2.1, x.2.2)
theorem nums_inj : ∀ {a b : List Int}, a.map NestedKey.num = b.map NestedKey.num → a = b
  | [], [], _ => rfl
  | [], _ :: _, e => by simp at e
  | _ :: _, [], e => by simp at e
  | x :: a, y :: b, e => by
    rw [List.map_cons, List.map_cons] at e
    injection e with e1 e2
    injection e1 with e1
    rw [e1, nums_inj e2]
theorem nkN_inj {a b : NK} (e : nkN a = nkN b) : a = b := by
  cases a with
  | none => cases b with
    | none => rfl
    | some y => exact nomatch (show NestedKey.none = .tup (y.map .num) from e)
  | some x => cases b with
    | none => exact nomatch (show NestedKey.tup (x.map .num) = .none from e)
    | some y =>
      have e' : NestedKey.tup (x.map .num) = .tup (y.map .num) := e
      injection e' with e'
      rw [nums_inj e']
theorem nums_depth : ∀ a : List Int, NestedKey.depthAll (a.map .num) = 0
  | [] => rfl
  | x :: a => by rw [List.map_cons, NestedKey.depthAll, nums_depth a]; rfl
theorem nk_depth (k : NK) : (nkN k).depth ≤ 8 := by
  cases k with
  | none => exact Nat.zero_le _
  | some a =>
    show (NestedKey.tup (a.map .num)).depth ≤ 8
    rw [NestedKey.depth, nums_depth]; decide
theorem nums_hash (w w' : World) : ∀ a : List Int, NestedKey.hashes w (a.map .num) = NestedKey.hashes w' (a.map .num)
  | [] => rfl
  | x :: a => by rw [List.map_cons, NestedKey.hashes, NestedKey.hashes, nums_hash w w' a]; rfl
theorem nk_hash (w w' : World) (k : NK) : (nkN k).hash w = (nkN k).hash w' := by
  cases k with
  | none => rfl
  | some a =>
    show (NestedKey.tup (a.map .num)).hash w = (NestedKey.tup (a.map .num)).hash w'
    rw [NestedKey.hash, NestedKey.hash, nums_hash w w' a]
def DN (d : Addr) (xs : List NX) (h : Heap) : Prop := (d == sysModules) = false ∧ ∃ o es ep, h.get? d = some o ∧ o.ExactDict ∧ o.data = .dict es ep ∧ ∀ w, es.toList = (xs.map nx2).map (nent w)
structure NAll (h : Heap) (xs : List NX) : Prop where
  is : ∀ x ∈ xs, NIs h (nkN x.1) x.2.1
  nd : (xs.map (·.1)).Nodup
variable {d : Addr} {xs : List NX} {k : NK} {v : Value}
theorem nx2_keys (xs : List NX) : (xs.map nx2).map (·.1) = (xs.map (·.1)).map nkN := by rw [List.map_map, List.map_map]; rfl
theorem NAll.nd2 {h : Heap} (a : NAll h xs) : ((xs.map nx2).map (·.1)).Nodup := by
  rw [nx2_keys]
  have h1 := a.nd
  generalize xs.map (·.1) = l at h1
  induction l with
  | nil => exact .nil
  | cons x l ih =>
    rw [List.nodup_cons] at h1
    rw [List.map_cons, List.nodup_cons]
    refine ⟨fun z => ?_, ih h1.2⟩
    obtain ⟨y, hy, e⟩ := List.mem_map.mp z
    have e2 : y = x := nkN_inj e
    exact h1.1 (e2 ▸ hy)
theorem DN.F (D : DN d xs s.heap) (a : NAll s.heap xs) (key : NIs s.heap (nkN k) v) : ∃ o es ep, NFind s w d o es ep (xs.map nx2) (nkN k) v ∧ o.ExactDict := by
  obtain ⟨_, o, es, ep, ho, hx, hd, he⟩ := D
  exact ⟨o, es, ep, ⟨ho, hd, he w, fun x hx => (by obtain ⟨y, hy, rfl⟩ := List.mem_map.mp hx; exact a.is y hy), a.nd2, key⟩, hx⟩
theorem DN.typeIs (D : DN d xs s.heap) : s.TypeIs (.ref d) "dict" := by
  obtain ⟨_, o, es, ep, ho, hx, _⟩ := D
  exact ⟨o, ho, hx.1⟩
theorem NIs.noStr {h : Heap} (key : NIs h (nkN k) v) : ∀ x t, v ≠ .str x t := fun x t e => by
  subst e
  have a := key.1
  cases k with
  | none => cases (show NestedIs h .none (.str x t) from a)
  | some l => cases (show NestedIs h (.tup (l.map .num)) (.str x t) from a)
def valN (xs : List NX) (k : NK) : Option Value := (xs.find? fun x => decide (x.1 = k)).map (·.2.2)
theorem valN_none (h : ∀ x ∈ xs, x.1 ≠ k) : valN xs k = none := by
  unfold valN
  rw [List.find?_eq_none.mpr fun x hx => by simpa using h x hx]; rfl
theorem valN_at {i : Nat} {x : NX} (nd : (xs.map (·.1)).Nodup) (hi : xs[i]? = some x) : valN xs x.1 = some x.2.2 := by
  unfold valN
  induction xs generalizing i with
  | nil => cases hi
  | cons y r ih =>
    rw [List.map_cons, List.nodup_cons] at nd
    cases i with
    | zero =>
      cases hi
      rw [List.find?_cons, decide_eq_true rfl]; rfl
    | succ i =>
      have hx : x ∈ r := List.mem_of_getElem? (by simpa using hi)
      rw [List.find?_cons, decide_eq_false (show ¬ y.1 = x.1 from fun e => nd.1 (by rw [e]; exact List.mem_map_of_mem hx))]
      exact ih nd.2 (i := i) (by simpa using hi)
theorem nd_dictGet {Q : Option Value → Shared → Prop} (hu : A.units + 8 < cLine) (D : DN d xs s.heap) (a : NAll s.heap xs) (key : NIs s.heap (nkN k) v)
    (h : Q (valN xs k) { s with toks := s.toks + (nkN k).draws }) : wpAny (model prog w) A (dictGet d v) Q E s := by
  obtain ⟨o, es, ep, F, _⟩ := D.F (w := w) a key
  have F' : NFind { s with toks := s.toks + (nkN k).draws } w d o es ep (xs.map nx2) (nkN k) v := ⟨F.ho, F.hd, F.he, F.is, F.nd, F.key⟩
  unfold dictGet
  refine wpAny_holding (wpAny_bind (pyHash_key _ _ A s _ key.1 (by have := key.2; omega) (wpAny_bind (F'.find key.noStr hu (fun hno => ?_) fun j x hj e => ?_))))
  · rw [valN_none fun x hx e => hno _ (List.mem_map_of_mem hx) (by show nkN x.1 = _; rw [e])] at h
    exact wpAny_pure h
  · rw [List.getElem?_map] at hj
    cases hx : xs[j]? with
    | none => rw [hx] at hj; cases hj
    | some y =>
      rw [hx] at hj
      cases hj
      have ek : y.1 = k := nkN_inj e
      have := valN_at a.nd hx
      rw [ek] at this
      rw [this] at h
      refine wpAny_bind (wpAny_dictEntries F'.ho F'.hd ?_)
      rw [F'.at, List.getElem?_map, hx]
      exact wpAny_pure h
theorem nd_getItem {u : Value} {Q : Value → Shared → Prop} (hu : A.units + 9 < cLine) (D : DN d xs s.heap) (a : NAll s.heap xs) (key : NIs s.heap (nkN k) v) (hv : valN xs k = some u)
    (h : Q u { s with toks := s.toks + (nkN k).draws }) : wpAny (model prog w) A (getItem (.ref d) v) Q E s := by
  have T := D.typeIs
  refine wpAny_getItem_slot T (by decide) PySem.F.slot_dict_getitem (wpAny_call_entry PySem.F.slot_dict_getitem T PySem.F.entry_dict_getitem ?_ (PySem.F.args_dict_getitem_2 _ _))
  show wpAny _ _ (dictGet d v >>= _) _ _ s
  refine wpAny_bind (nd_dictGet (show A.units + 1 + 8 < cLine by omega) D a key ?_)
  rw [hv]
  exact wpAny_pure ⟨u, rfl, h⟩
theorem nd_has {Q : Bool → Shared → Prop} (hu : A.units + 9 < cLine) (D : DN d xs s.heap) (a : NAll s.heap xs) (key : NIs s.heap (nkN k) v)
    (h : Q (valN xs k).isSome { s with toks := s.toks + (nkN k).draws }) : wpAny (model prog w) A (contains (.ref d) v) Q E s := by
  have T := D.typeIs
  refine wpAny_contains_slot T PySem.F.slot_dict_contains (wpAny_call_entry PySem.F.slot_dict_contains T PySem.F.entry_dict_contains ?_ (PySem.F.args_dict_contains_2 _ _))
  show wpAny _ _ (dictGet d v >>= _) _ _ s
  refine wpAny_bind (nd_dictGet (show A.units + 1 + 8 < cLine by omega) D a key ?_)
  cases e : valN xs k with
  | some u =>
    rw [e] at h
    exact wpAny_pure ⟨_, rfl, wpAny_truthy_bool h⟩
  | none =>
    rw [e] at h
    show wpAny _ _ (Builtin.Dict.pendingKey? d v >>= _) _ _ _
    exact wpAny_bind (wpAny_pendingKey_other D.1 (wpAny_pure ⟨_, rfl, wpAny_truthy_bool h⟩))
theorem nd_in {Q : Value → Shared → Prop} (hu : A.units + 9 < cLine) (D : DN d xs s.heap) (a : NAll s.heap xs) (key : NIs s.heap (nkN k) v)
    (h : Q (.bool (valN xs k).isSome) { s with toks := s.toks + (nkN k).draws }) : wpAny (model prog w) A (compareOp .In v (.ref d)) Q E s := by
  show wpAny _ _ (do return .bool (← contains (.ref d) v)) Q E s
  exact wpAny_bind (nd_has hu D a key (wpAny_pure h))
theorem nd_notIn {Q : Value → Shared → Prop} (hu : A.units + 9 < cLine) (D : DN d xs s.heap) (a : NAll s.heap xs) (key : NIs s.heap (nkN k) v)
    (h : Q (.bool (!(valN xs k).isSome)) { s with toks := s.toks + (nkN k).draws }) : wpAny (model prog w) A (compareOp .NotIn v (.ref d)) Q E s := by
  show wpAny _ _ (do return .bool (!(← contains (.ref d) v))) Q E s
  exact wpAny_bind (nd_has hu D a key (wpAny_pure h))
def putN (xs : List NX) (k : NK) (v u : Value) : List NX := if (xs.any fun x => decide (x.1 = k)) = true then xs.map (fun x => if x.1 = k then (x.1, x.2.1, u) else x) else xs ++ [(k, v, u)]
theorem any_no (h : ∀ x ∈ xs, x.1 ≠ k) : (xs.any fun x => decide (x.1 = k)) = false := by
  rw [List.any_eq_false]
  exact fun x hx => by simpa using h x hx
theorem any_at {i : Nat} {x : NX} (hi : xs[i]? = some x) (e : x.1 = k) : (xs.any fun x => decide (x.1 = k)) = true := by
  rw [List.any_eq_true]
  exact ⟨x, List.mem_of_getElem? hi, by simpa using e⟩
theorem putN_modify {w : World} {u : Value} : ∀ {xs : List NX} {i : Nat} {x : NX}, (xs.map (·.1)).Nodup → xs[i]? = some x → x.1 = k →
    (((xs.map nx2).map (nent w)).modify i fun e => { e with val := u }) = ((xs.map fun x => if x.1 = k then (x.1, x.2.1, u) else x).map nx2).map (nent w)
  | [], _, _, _, hi, _ => by cases hi
  | y :: r, 0, x, nd, hi, e => by
    cases hi
    rw [List.map_cons, List.nodup_cons] at nd
    have same : ∀ l : List NX, (∀ z ∈ l, z.1 ≠ k) → (l.map fun x => if x.1 = k then (x.1, x.2.1, u) else x) = l := fun l hl => by
      induction l with
      | nil => rfl
      | cons z l ih => rw [List.map_cons, if_neg (hl z (List.mem_cons_self ..)), ih fun b hb => hl b (List.mem_cons_of_mem _ hb)]
    have h1 := same r fun z hz e' => nd.1 (by rw [e, ← e']; exact List.mem_map_of_mem hz)
    show _ = (((if y.1 = k then (y.1, y.2.1, u) else y) :: r.map fun x => if x.1 = k then (x.1, x.2.1, u) else x).map nx2).map (nent w)
    rw [h1, if_pos e]
    rfl
  | y :: r, i + 1, x, nd, hi, e => by
    rw [List.map_cons, List.nodup_cons] at nd
    have hx : x ∈ r := List.mem_of_getElem? (by simpa using hi)
    have := putN_modify (w := w) (u := u) nd.2 (i := i) (by simpa using hi) e
    rw [List.map_cons (l := r) (f := fun x => if x.1 = k then (x.1, x.2.1, u) else x), if_neg (fun e' => nd.1 (by rw [e', ← e]; exact List.mem_map_of_mem hx))]
    show nent w (nx2 y) :: List.modify ((r.map nx2).map (nent w)) i _ = nent w (nx2 y) :: _
    rw [this]
theorem nd_dictSet {u : Value} {Q : Unit → Shared → Prop} (hu : A.units + 8 < cLine) (D : DN d xs s.heap) (a : NAll s.heap xs) (key : NIs s.heap (nkN k) v) (hz : xs.length ≤ sizeLine)
    (h : ∀ h', DN d (putN xs k v u) h' → Heap.SameBut d s.heap h' → Q () { s with heap := h', toks := s.toks + (nkN k).draws }) : wpAny (model prog w) A (dictSet d v u) Q E s := by
  obtain ⟨o, es, ep, F, hx⟩ := D.F (w := w) a key
  obtain ⟨hs, o', es', ep', ho', _, hd', hall⟩ := D
  obtain rfl : o = o' := by have := F.ho.symm.trans ho'; cases this; rfl
  obtain ⟨rfl, rfl⟩ : es = es' ∧ ep = ep' := by have := F.hd.symm.trans hd'; cases this; exact ⟨rfl, rfl⟩
  have F' : NFind { s with toks := s.toks + (nkN k).draws } w d o es ep (xs.map nx2) (nkN k) v := ⟨F.ho, F.hd, F.he, F.is, F.nd, F.key⟩
  have sz : es.size ≤ sizeLine := by rw [← Array.length_toList, F.he, List.length_map, List.length_map]; exact hz
  unfold dictSet
  refine wpAny_holding (wpAny_bind (pyHash_key _ _ A s _ key.1 (by have := key.2; omega) ?_))
  unfold dictSetHashed
  refine wpAny_holding (wpAny_bind (F'.find key.noStr hu (fun hno => ?_) fun j x hj e => ?_))
  · have hno' : ∀ x ∈ xs, x.1 ≠ k := fun x hx e => hno _ (List.mem_map_of_mem hx) (by show nkN x.1 = _; rw [e])
    refine wpAny_bind (wpAny_rule (wpAny_updateDictKeys (hz := sz) F'.ho F'.hd (h _ ?_ (Heap.SameBut.update ..))))
    refine ⟨hs, _, _, ep + 1, Heap.get?_update_self _ F.ho (Obj.isFreed_of_dict (Obj.data_mapDictKeys F.hd _)), hx.mapDictKeys _, Obj.data_mapDictKeys F.hd _, fun w' => ?_⟩
    unfold putN
    rw [any_no hno', if_neg (by decide), Array.toList_push, hall w', List.map_append, List.map_append, nk_hash w w' k]
    rfl
  · rw [List.getElem?_map] at hj
    cases hxj : xs[j]? with
    | none => rw [hxj] at hj; cases hj
    | some y =>
      rw [hxj] at hj
      cases hj
      have ek : y.1 = k := nkN_inj e
      refine wpAny_bind (wpAny_rule (wpAny_bind (wpAny_updateDict F'.ho F'.hd (wpAny_point (h _ ?_ (Heap.SameBut.update ..))))))
      refine ⟨hs, _, _, ep, Heap.get?_update_self _ F.ho (Obj.isFreed_of_dict (Obj.data_mapDict F.hd _)), hx.mapDict _, Obj.data_mapDict F.hd _, fun w' => ?_⟩
      unfold putN
      rw [any_at hxj ek, if_pos rfl, ← putN_modify a.nd hxj ek, ← hall w']
      obtain ⟨l⟩ := es
      simp
theorem nd_setItem {u : Value} {Q : Unit → Shared → Prop} (hu : A.units + 9 < cLine) (D : DN d xs s.heap) (a : NAll s.heap xs) (key : NIs s.heap (nkN k) v) (hz : xs.length ≤ sizeLine)
    (h : ∀ h', DN d (putN xs k v u) h' → Heap.SameBut d s.heap h' → Q () { s with heap := h', toks := s.toks + (nkN k).draws }) : wpAny (model prog w) A (setItem (.ref d) v u) Q E s := by
  have T := D.typeIs
  unfold setItem
  refine wpAny_holding (wpAny_bind (wpAny_sequenceKey T (by decide) ?_))
  refine wpAny_bind (wpAny_callSpecial?_slot (name := Str.ofString "__setitem__") T PySem.F.slot_dict_setitem (wpAny_call_entry PySem.F.slot_dict_setitem T PySem.F.entry_dict_setitem ?_ (PySem.F.args_dict_setitem_3 _ _ _)))
  show wpAny _ _ (Builtin.Dict.notOrdered "__setitem__" ⟨[.ref d, v, u], []⟩ >>= _) _ _ s
  refine wpAny_bind (wpAny_notOrdered_dict T ?_)
  show wpAny _ _ (dictSet d v u >>= _) _ _ s
  exact wpAny_bind (nd_dictSet (show A.units + 1 + 8 < cLine by omega) D a key hz fun h' D' sb => wpAny_pure ⟨.none, rfl, wpAny_pure (h h' D' sb)⟩)
end
def NdO (d : Addr) (xs : List NX) : HO := .ext (DN d xs)
def KeyV (H : Hp) : NK → Value → Prop
  | none, u => u = .none
  | some is, u => ∃ b, u = .ref b ∧ H b = some (.tup (is.map V.int))
def KeyOf (H : Hp) : NK → V → Prop
  | none, y => y = .non
  | some is, y => ∃ b, y = .ref b ∧ H b = some (.tup (is.map V.int))
abbrev NKs (H : Hp) : List (NK × V) → List NX → Prop := Paired fun p q => p.1 = q.1 ∧ KeyV H p.1 q.2.1 ∧ RelV p.2 q.2.2
theorem KeyOf.v {H : Hp} {k : NK} {y : V} {u : Value} (h : KeyOf H k y) (r : RelV y u) : KeyV H k u := by
  cases k with
  | none => cases (show y = .non from h); exact r
  | some is => obtain ⟨b, rfl, e⟩ := h; exact ⟨b, r, e⟩
theorem vals_nums {h : Heap} : ∀ {is : List Int} {us : List Value}, Vals (is.map V.int) us → NestedAll h (is.map .num) us
  | [], _, r => by rw [List.map_nil] at r; cases r; exact .nil
  | i :: is, _, r => by
    rw [List.map_cons] at r
    cases r with
    | cons a t =>
      obtain ⟨tk, rfl⟩ := a
      exact .cons (.int i tk) (vals_nums t)
theorem KeyV.is {P : Program} {w : World} {H : Hp} {h : Heap} {k : NK} {u : Value} (ok : HOk P w H h) (e : KeyV H k u) : NIs h (nkN k) u := by
  refine ⟨?_, nk_depth k⟩
  cases k with
  | none => cases (show u = Value.none from e); exact .none
  | some is =>
    obtain ⟨b, rfl, eb⟩ := e
    obtain ⟨_, its, r, o, h1, h2, n, h3⟩ := (show ObjOk P w H h b (.tup (is.map V.int)) from ok b _ eb)
    exact .tup h1 h2 h3 (by simpa using vals_nums r)
section
variable {H H' : Hp} {vs : List (NK × V)} {xs : List NX} {k : NK}
theorem NKs.keys (r : NKs H vs xs) : vs.map (·.1) = xs.map (·.1) := by
  induction r with
  | nil => rfl
  | cons h t ih => rw [List.map_cons, List.map_cons, ih, h.1]
theorem NKs.all {P : Program} {w : World} {h : Heap} (r : NKs H vs xs) (ok : HOk P w H h) (nd : (vs.map (·.1)).Nodup) : NAll h xs := by
  refine ⟨fun x hx => ?_, by rw [← r.keys]; exact nd⟩
  clear nd
  induction r with
  | nil => cases hx
  | cons e t ih =>
    rcases List.mem_cons.mp hx with rfl | hx
    · rw [← e.1]; exact e.2.1.is ok
    · exact ih hx
theorem NKs.val (r : NKs H vs xs) (k : NK) : RelO (valV vs k) (valN xs k) := by
  induction r with
  | nil => exact True.intro
  | @cons p q ps qs h t ih =>
    by_cases e : p.1 = k
    · have e' : q.1 = k := h.1.symm.trans e
      have b : valN (q :: qs) k = some q.2.2 := by unfold valN; rw [List.find?_cons, decide_eq_true e']; rfl
      rw [valV_pos e, b]; exact h.2.2
    · have e' : ¬ q.1 = k := fun z => e (h.1.trans z)
      have b : valN (q :: qs) k = valN qs k := by unfold valN; rw [List.find?_cons, decide_eq_false e']
      rw [valV_neg e, b]; exact ih
theorem NKs.any (r : NKs H vs xs) (k : NK) : (vs.any fun p => decide (p.1 = k)) = xs.any fun p => decide (p.1 = k) := by
  induction r with
  | nil => rfl
  | cons h t ih => rw [List.any_cons, List.any_cons, ih, h.1]
theorem NKs.repl (r : NKs H vs xs) (k : NK) {y : V} {u : Value} (ry : RelV y u) : NKs H (vs.map fun p => if p.1 = k then (p.1, y) else p) (xs.map fun x => if x.1 = k then (x.1, x.2.1, u) else x) := by
  induction r with
  | nil => exact .nil
  | @cons p q ps qs h t ih =>
    rw [List.map_cons, List.map_cons]
    refine .cons ?_ ih
    by_cases e : p.1 = k
    · rw [if_pos e, if_pos (h.1.symm.trans e)]; exact ⟨h.1, h.2.1, ry⟩
    · rw [if_neg e, if_neg (fun z => e (h.1.trans z))]; exact h
theorem NKs.put (r : NKs H vs xs) {y : V} {v u : Value} (key : KeyV H k v) (ry : RelV y u) : NKs H (putK vs k y) (putN xs k v u) := by
  unfold putK putN
  rw [r.any k]
  by_cases e : (xs.any fun p => decide (p.1 = k)) = true
  · rw [if_pos e, if_pos e]; exact r.repl k ry
  · rw [if_neg e, if_neg e]; exact Paired.snoc r ⟨rfl, key, ry⟩
theorem KeyV.mono {u : Value} (h : KeyV H k u) (t : ∀ b ys, H b = some (.tup ys) → H' b = some (.tup ys)) : KeyV H' k u := by
  cases k with
  | none => exact h
  | some is => obtain ⟨b, e, eb⟩ := h; exact ⟨b, e, t _ _ eb⟩
theorem NKs.mono (r : NKs H vs xs) (t : ∀ b ys, H b = some (.tup ys) → H' b = some (.tup ys)) : NKs H' vs xs := Paired.mapP r fun _ _ z => ⟨z.1, z.2.1.mono t, z.2.2⟩
end
section
variable {X : Cx} {pins : List (Addr × Obj)} {σ : L2.St} {H : Hp} {s : Shared} {a : Addr} {A : Around} {E : Value → Shared → Prop} {vs : List (NK × V)} {xs : List NX} {k : NK} {u : Value}
theorem ndO_ok {P : Program} {w : World} {h : Heap} (D : DN a xs h) : ObjOk P w H h a (NdO a xs) := by
  have ⟨_, o, _, _, ho, _⟩ := D
  exact ⟨D, ⟨o, ho⟩, fun h1 h2 ⟨q, o, es, ep, e, r⟩ k => ⟨q, o, es, ep, k o e, r⟩⟩
theorem ndO_get (I : Inv X pins σ H s) (e : H a = some (NdO a xs)) : DN a xs s.heap := (I.hok a _ e).1
theorem nx_get {v : V} {Q : Value → Shared → Prop} (hu : A.units + 9 < cLine) (I : Inv X pins σ H s) (e : H a = some (NdO a xs)) (r : NKs H vs xs) (nd : (vs.map (·.1)).Nodup) (ky : KeyV H k u) (hv : valV vs k = some v)
    (h : ∀ w' s', Inv X pins σ H s' → RelV v w' → Q w' s') : wpAny (model X.prog X.w) A (getItem (.ref a) u) Q E s := by
  have q := r.val k
  rw [hv] at q
  obtain ⟨w', hw, rw'⟩ := RelO.some_of q
  exact nd_getItem hu (ndO_get I e) (r.all I.hok nd) (ky.is I.hok) hw (h w' _ (I.tok _) rw')
theorem nx_in {Q : Value → Shared → Prop} (hu : A.units + 9 < cLine) (I : Inv X pins σ H s) (e : H a = some (NdO a xs)) (r : NKs H vs xs) (nd : (vs.map (·.1)).Nodup) (ky : KeyV H k u)
    (h : ∀ s', Inv X pins σ H s' → Q (.bool (valV vs k).isSome) s') : wpAny (model X.prog X.w) A (compareOp .In u (.ref a)) Q E s := by
  refine nd_in hu (ndO_get I e) (r.all I.hok nd) (ky.is I.hok) ?_
  rw [← (r.val k).isSome_eq]
  exact h _ (I.tok _)
theorem nx_notIn {Q : Value → Shared → Prop} (hu : A.units + 9 < cLine) (I : Inv X pins σ H s) (e : H a = some (NdO a xs)) (r : NKs H vs xs) (nd : (vs.map (·.1)).Nodup) (ky : KeyV H k u)
    (h : ∀ s', Inv X pins σ H s' → Q (.bool (!(valV vs k).isSome)) s') : wpAny (model X.prog X.w) A (compareOp .NotIn u (.ref a)) Q E s := by
  refine nd_notIn hu (ndO_get I e) (r.all I.hok nd) (ky.is I.hok) ?_
  rw [← (r.val k).isSome_eq]
  exact h _ (I.tok _)
theorem nx_set {z : Value} {Q : Unit → Shared → Prop} (hu : A.units + 9 < cLine) (I : Inv X pins σ H s) (e : H a = some (NdO a xs)) (r : NKs H vs xs) (nd : (vs.map (·.1)).Nodup) (hz : vs.length ≤ sizeLine) (ky : KeyV H k u)
    (h : ∀ s', Inv X pins σ (upd H a (NdO a (putN xs k u z))) s' → Q () s') : wpAny (model X.prog X.w) A (setItem (.ref a) u z) Q E s := by
  refine nd_setItem hu (ndO_get I e) (r.all I.hok nd) (ky.is I.hok) (by rw [← Paired.length r]; exact hz) fun h' D' sb => h _ ?_
  have he : ∃ q, h'.get? a = some q := let ⟨_, q, _, _, hq, _⟩ := D'; ⟨q, hq⟩
  exact d_write I (by rw [e]; exact True.intro) sb he (ndO_ok D')
theorem nx_empty (h : Heap) (hb : sysModules < h.objs.size) : DN h.objs.size [] (h.push { cls := .type "dict", data := .dict #[] }) :=
  ⟨beq_eq_false_iff_ne.mpr (Ne.symm (Nat.ne_of_lt hb)), _, #[], 0, Heap.get?_push_size _ rfl, ⟨rfl, rfl, rfl⟩, rfl, fun _ => rfl⟩
def tDNewN : TE := fun _ H Q => ∀ p, H p = none → Q (.ref p) (upd H p (NdO p []))
theorem pe_dnewN {pos : Pos} : PE X (.Dict [] [] pos) tDNewN := ⟨fun pins s σ H Q I h =>
  wpAny_Dict_empty ⟨.ref s.heap.objs.size, _, I.laid (a := s.heap.objs.size) (o := NdO s.heap.objs.size []) (t' := s.toks) (fun _ _ q => Heap.get?_push_of_some _ q) (Nat.le_refl _) (ndO_ok (nx_empty s.heap I.big)), rfl, h _ (I.hok.fresh (Nat.le_refl _))⟩⟩
structure NdAt (H : Hp) (a : Addr) (xs : List NX) (vs : List (NK × V)) : Prop where
  at_ : H a = some (NdO a xs)
  r : NKs H vs xs
  nd : (vs.map (·.1)).Nodup
  sz : vs.length ≤ sizeLine
def rIxN : R2 := fun x y H Q => ∃ a xs vs k v, x = .ref a ∧ NdAt H a xs vs ∧ KeyOf H k y ∧ valV vs k = some v ∧ Q v H
theorem ix_nd (hu : X.A.units + 9 < cLine) : IxR X rIxN := by
  intro value slice pins s σ H x y v u Q I rx ry h hs
  obtain ⟨a, xs, vs, k, w, rfl, n, ky, hv, q⟩ := h
  obtain rfl : v = Value.ref a := rx
  have hT := (ndO_get I n.at_).typeIs
  unfold subscriptTail
  refine wpAny_bind ?_
  rw [getitemInPython_of_ne hT.not_modules]
  refine wpAny_bind (wpAny_specialOf hT PySem.F.slot_dict_getitem.lookup ?_)
  have fin : wpAny (model X.prog X.w) X.A (subscripted slice false (.ref a) u) (fun r s₃ => wpAny (model X.prog X.w) X.A (letTemporaryGo value (.ref a) r >>= fun _ => pure r) (EP X pins σ Q) X.xe s₃) X.xe s := by
    rw [hs]
    exact wpAny_operating (wpAny_mono (nx_get hu I n.at_ n.r n.nd (ky.v ry) hv fun w' s3 I3 rw' => (⟨w, H, I3, rw', q⟩ : EP X pins σ Q w' s3)) (fun r s₃ h₃ => wpAny_bind (wpAny_letTemporaryGo (wpAny_pure h₃))) fun _ _ x => x)
  first
    | exact wpAny_pure (wpAny_bind fin)
    | exact wpAny_bind (wpAny_pure (wpAny_bind fin))
    | exact wpAny_bind fin
def rInN : R2 := fun y x H Q => ∃ a xs vs k, x = .ref a ∧ NdAt H a xs vs ∧ KeyOf H k y ∧ Q (.bl (valV vs k).isSome) H
def rNotInN : R2 := fun y x H Q => ∃ a xs vs k, x = .ref a ∧ NdAt H a xs vs ∧ KeyOf H k y ∧ Q (.bl (!(valV vs k).isSome)) H
theorem op_inNd (hu : X.A.units + 9 < cLine) : OpR X (compareOp .In) rInN := by
  intro pins s σ H y x iv u Q I ry rx h
  obtain ⟨a, xs, vs, k, rfl, n, ky, q⟩ := h
  obtain rfl : u = Value.ref a := rx
  exact nx_in hu I n.at_ n.r n.nd (ky.v ry) fun s3 I3 => ⟨.bl (valV vs k).isSome, H, I3, rfl, q⟩
theorem op_notInNd (hu : X.A.units + 9 < cLine) : OpR X (compareOp .NotIn) rNotInN := by
  intro pins s σ H y x iv u Q I ry rx h
  obtain ⟨a, xs, vs, k, rfl, n, ky, q⟩ := h
  obtain rfl : u = Value.ref a := rx
  exact nx_notIn hu I n.at_ n.r n.nd (ky.v ry) fun s3 I3 => ⟨.bl (!(valV vs k).isSome), H, I3, rfl, q⟩
def rInNo (k : Bool) : R2 := fun y x H Q => ∃ a kvs, x = .ref a ∧ y = .non ∧ Rd H a (.dK kvs) ∧ Q (.bl k) H
theorem op_inNo : OpR X (compareOp .In) (rInNo false) := by
  intro pins s σ H y x iv u Q I ry rx h
  obtain ⟨a, kvs, rfl, rfl, e, q⟩ := h
  obtain rfl : u = Value.ref a := rx
  obtain rfl : iv = Value.none := ry
  exact d_inNone I e fun s3 I3 => ⟨.bl false, H, I3, rfl, q⟩
theorem op_notInNo : OpR X (compareOp .NotIn) (rInNo true) := by
  intro pins s σ H y x iv u Q I ry rx h
  obtain ⟨a, kvs, rfl, rfl, e, q⟩ := h
  obtain rfl : u = Value.ref a := rx
  obtain rfl : iv = Value.none := ry
  exact d_notInNone I e fun s3 I3 => ⟨.bl true, H, I3, rfl, q⟩
def rSetN : TSet := fun o i v H Q => ∃ a xs vs k, o = .ref a ∧ NdAt H a xs vs ∧ KeyOf H k i ∧ ∀ xs', NKs (upd H a (NdO a xs')) (putK vs k v) xs' → Q (upd H a (NdO a xs'))
theorem set_nd (hu : X.A.units + 9 < cLine) : PSet X rSetN := by
  intro pins s σ H o i v ov iv u Q I ro ri rv h
  obtain ⟨a, xs, vs, k, rfl, n, ky, q⟩ := h
  obtain rfl : ov = Value.ref a := ro
  refine nx_set hu I n.at_ n.r n.nd n.sz (ky.v ri) fun s3 I3 => ⟨_, I3, q _ ?_⟩
  refine (n.r.put (ky.v ri) rv).mono fun b ys e => ?_
  have : b ≠ a := fun z => by
    subst z
    rw [n.at_] at e
    cases e
  rw [upd_ne this]; exact e
end
section
variable {prog : Program} {w : World} {κ : Type} [DecidableEq κ] {knd : HeapKind prog w κ} {A : Around} {E : Value → Shared → Prop} {s : Shared}
theorem setdH {d b : Addr} {xs : List (κ × Addr × Value)} {k : κ} {dflt : Value} {Q : Value → Shared → Prop} (hu : knd.room A) (hkey : knd.is s.heap k b) (hm : s.heap.DictOfH knd d xs) (hsz : xs.length ≤ sizeLine)
    (h1 : ∀ p, atKey xs k = some p → ∀ tk, Q p.2 { s with toks := tk }) (h2 : atKey xs k = none → ∀ h' tk, h'.DictOfH knd d (storedH xs k b dflt) → Heap.SameBut d s.heap h' → Q dflt { s with heap := h', toks := tk }) :
    wpAny (model prog w) A (dictSetDefault d (.ref b) dflt) Q E s := by
  obtain ⟨o, es, ep, ho, hc, hd, he, his, hn⟩ := hm
  unfold dictSetDefault
  try with_reducible refine wpAny_holding ?_
  refine wpAny_bind (knd.pyHash hu hkey ?_)
  refine wpAny_bind (wpAny_dictFind_heap (s := { s with toks := s.toks + knd.draws k }) hu hkey ho hd he his hn ?_ ?_)
  · intro hno
    have hnot : k ∉ xs.map (·.1) := not_mem_keys_of_get hno
    refine wpAny_bind (wpAny_rule (wpAny_bind (wpAny_updateDictKeys (hz := by have e := size_of_entries he; omega) (s := { s with toks := s.toks + knd.draws k }) ho hd (wpAny_pure (h2 (atKey_none_of_get hno) _ _ ⟨_, _, ep + 1, Heap.get?_update_self _ ho (Obj.isFreed_of_dict (Obj.data_mapDictKeys hd _)),
      hc.mapDictKeys _, Obj.data_mapDictKeys hd _, ?_, ?_, ?_⟩ (Heap.SameBut.update ..))))))
    · rw [storedH_new (atKey_none_of_get hno)]
      simp [he, entryOfKey]
    · rw [storedH_new (atKey_none_of_get hno)]
      intro x hx
      rcases List.mem_append.mp hx with hx | hx
      · exact knd.keeps (his x hx) ho hd (Heap.SameBut.update ..)
      · simp only [List.mem_singleton] at hx
        subst hx
        exact knd.keeps hkey ho hd (Heap.SameBut.update ..)
    · rw [storedH_new (atKey_none_of_get hno)]
      rw [List.map_append, List.nodup_append]
      refine ⟨hn, by simp, ?_⟩
      intro x hx y hy
      simp only [List.map_cons, List.map_nil, List.mem_singleton] at hy
      subst hy
      exact fun e => hnot (e ▸ hx)
  · intro j p hj
    refine wpAny_bind (wpAny_dictEntries (s := { s with toks := s.toks + knd.draws k }) ho hd ?_)
    have hej : es[j]? = some (entryOfKey knd (k, p)) := by rw [entry_at he j, hj]; rfl
    rw [hej]
    exact wpAny_bind (wpAny_rule (wpAny_pure (h1 p (atKey_of_get hn hj) _)))
theorem meetsSetdH {d b : Addr} {k : κ} (dflt : Value) (hd : (d == sysModules) = false) :
    MeetsIn prog w (Builtin.«dict.setdefault» ⟨[.ref d, .ref b, dflt], []⟩) (fun A R s => ∃ xs, knd.room A.in1 ∧ knd.is s.heap k b ∧ s.heap.DictOfH knd d xs ∧ xs.length ≤ sizeLine ∧
      (∀ p, atKey xs k = some p → ∀ tk, R (.ok (.ret p.2)) { s with toks := tk }) ∧
      (atKey xs k = none → ∀ h' tk, h'.DictOfH knd d (storedH xs k b dflt) → Heap.SameBut d s.heap h' → R (.ok (.ret dflt)) { s with heap := h', toks := tk })) :=
  .of_wp fun A R s ⟨xs, hu, hkey, hm, hsz, h1, h2⟩ => by
    unfold Builtin.«dict.setdefault»
    refine wpAny_bind ?_
    unfold Builtin.Dict.keyAndDefault
    refine wpAny_bind (wpAny_notOrdered_dict hm.typeIs ?_)
    show wpAny _ _ (pure (d, Value.ref b, some dflt)) _ _ s
    refine wpAny_pure ?_
    show wpAny _ _ (if (d == sysModules) = true then _ else (dictSetDefault d (.ref b) dflt >>= _)) _ _ s
    rw [if_neg (by rw [hd]; exact Bool.false_ne_true)]
    exact wpAny_bind (setdH hu hkey hm hsz (fun p hp tk => wpAny_pure ⟨p.2, rfl, h1 p hp tk⟩) fun hn h' tk hm' hs' => wpAny_pure ⟨dflt, rfl, h2 hn h' tk hm' hs'⟩)
end
section
variable {X : Cx} {pins : List (Addr × Obj)} {σ : L2.St} {H : Hp} {s : Shared} {a b : Addr} {r : Value} {d : V} {k : List Key} {A : Around} {E : Value → Shared → Prop}
theorem d_setdT {kvs : List (List Key × V)} {Q : Value → Shared → Prop} (hu : A.units + 1 < cLine) (I : Inv X pins σ H s) (e : H a = some (.dT kvs)) (eb : H b = some (.tup (k.map kV))) (rd : RelV d r) (hl : kvs.length < sizeLine)
    (h1 : ∀ v, valV kvs k = some v → ∀ (w' : Value) (s' : Shared), Inv X pins σ H s' → RelV v w' → Q w' s') (h2 : valV kvs k = none → ∀ (w' : Value) (s' : Shared), Inv X pins σ (upd H a (.dT (putK kvs k d))) s' → RelV d w' → Q w' s') :
    wpAny (model X.prog X.w) A (call (.builtin "dict.setdefault") [.ref a, .ref b, r]) Q E s := by
  obtain ⟨z, hd, xs, rel, dd⟩ := dt_of I.hok e
  have hz : xs.length ≤ sizeLine := by
    rw [← Paired.length rel]
    exact z
  refine call_meetsIn PySem.F.slot_dict_setdefault dd.typeIs PySem.F.entry_dict_setdefault (PySem.F.args_dict_setdefault_3 _ _ _) (meetsSetdH (knd := tupleKind (mixKind X.prog X.w)) (k := k) r hd) ⟨xs, tupleKind_room_in1 hu, key_of I.hok eb, dd, hz, fun p hp tk => ?_, fun hn h' tk dd' hs => ?_⟩
  · have q := rel.val k
    rw [hp] at q
    cases q0 : valV kvs k with
    | none =>
      rw [q0] at q
      exact (show False from q).elim
    | some v0 =>
      rw [q0] at q
      exact h1 v0 q0 _ _ (I.tok _) q
  · have q := rel.val k
    rw [hn] at q
    cases q0 : valV kvs k with
    | some v0 =>
      rw [q0] at q
      exact (show False from q).elim
    | none =>
      have hl2 : (putK kvs k d).length ≤ sizeLine := by
        have := length_putK kvs k d
        omega
      obtain ⟨o, es, ep, hq, b2, b3, b4, _, b5⟩ := dd'
      exact h2 q0 _ _ (d_write (t' := tk) I (by rw [e]; exact True.intro) hs ⟨o, hq⟩ ⟨hl2, hd, _, (rel.put k eb rd).keeps (fun c ys ec => (by rw [upd_ne (ne_of ec e (fun z => nomatch z))]; exact ec)), o, es, ep, hq, b2, b3, b4, b5⟩) rd
end
def tDSetd2 (td ty tx : TE) : TE := fun σ H Q => td σ H fun x H1 => ∃ a, x = .ref a ∧ IsD H1 a ∧ ty σ H1 fun y H2 => tx σ H2 fun z H3 =>
  (∃ (kvs : List (Key × V)) (k : Key), H3 a = some (.dK kvs) ∧ y = kV k ∧ kvs.length < sizeLine ∧ (∀ v, valV kvs k = some v → Q v H3) ∧ (valV kvs k = none → Q z (upd H3 a (.dK (putK kvs k z))))) ∨
  ∃ (kvs : List (List Key × V)) (k : List Key) (b : Addr), H3 a = some (.dT kvs) ∧ y = .ref b ∧ H3 b = some (.tup (k.map kV)) ∧ kvs.length < sizeLine ∧ (∀ v, valV kvs k = some v → Q v H3) ∧ (valV kvs k = none → Q z (upd H3 a (.dT (putK kvs k z))))
section
variable {X : Cx} {o e f : Expr} {td ty tx : TE} {apos cpos : Pos}
theorem pe_dsetd2 (hu : X.A.units + 1 < cLine) (ho : PE X o td) (he : PE X e ty) (hf : PE X f tx) (m : M2 X o "setdefault" apos e f cpos) : PE X (.Call (.Attribute o "setdefault" apos) [e, f] [] cpos) (tDSetd2 td ty tx) := by
  refine ⟨fun pins s σ H Q I h => ?_⟩
  refine wpAny_Call_method m.base m.few m.line PySem.F.plainAttrs_dict PySem.F.slot_dict_setdefault PySem.F.type_dict_setdefault (thn (ho.run pins s σ H _ I h) fun u s1 ⟨x, H1, I1, rx, a, ex, d, q1⟩ => ?_)
  subst ex
  obtain rfl : u = Value.ref a := rx
  obtain ⟨t1, t2, _⟩ := isD_at I1 d
  refine ⟨t1, t2, ?_⟩
  rw [m.trees]
  refine Calls.callWith_builtin rfl (Calls.evalArgs_plain (Calls.spliced_cons (thn (he.run pins s1 σ H1 _ I1 q1) fun iv s2 ⟨y, H2, I2, ry, q2⟩ =>
    Calls.spliced_cons (thn (hf.run pins s2 σ H2 _ I2 q2) fun fv s3 ⟨z, H3, I3, rz, q3⟩ => Calls.spliced_nil ?_))))
  rcases q3 with ⟨kvs, k, ea, ey, hl, q3, q4⟩ | ⟨kvs, k, b, ea, ey, eb, hl, q3, q4⟩
  · subst ey
    exact d_setd I3 ea ry rz hl (fun v hv w' s4 I4 rw' => ⟨v, _, I4, rw', q3 v hv⟩) fun hn w' s4 I4 rw' => ⟨z, _, I4, rw', q4 hn⟩
  · subst ey
    obtain rfl : iv = Value.ref b := ry
    exact d_setdT hu I3 ea eb rz hl (fun v hv w' s4 I4 rw' => ⟨v, _, I4, rw', q3 v hv⟩) fun hn w' s4 I4 rw' => ⟨z, _, I4, rw', q4 hn⟩
end
inductive W where
  | non | bl (b : Bool) | int (i : Int) | str (x : Str) | ref (a : Addr) | ty (n : String) | tup (ws : List W)
  | rol (ws : List W)
inductive MO where
  | lst (ws : List W)
  | ins (C : Addr) (fs : List (Str × W))
  | dk (fz : Bool) (kvs : List (Key × W))
  | dt (fz : Bool) (kvs : List (List Key × W))
  | dn (kvs : List (NK × W))
abbrev Sto := Addr → Option MO
abbrev Envr := List (Option W)
def put (S : Sto) (a : Addr) (o : MO) : Sto := fun b => if b = a then some o else S b
theorem put_same {S : Sto} {a : Addr} {o : MO} : put S a o a = some o := if_pos rfl
theorem put_ne {S : Sto} {a b : Addr} {o : MO} (h : b ≠ a) : put S a o b = S b := if_neg h
theorem put_put {S : Sto} {a : Addr} {o u : MO} : put (put S a o) a u = put S a u := by
  funext b; unfold put; split <;> rfl
theorem put_self {S : Sto} {a : Addr} {o : MO} (h : S a = some o) : put S a o = S := by
  funext b; unfold put; split
  · rename_i e; rw [e, h]
  · rfl
theorem put_comm {S : Sto} {a b : Addr} {o u : MO} (h : a ≠ b) : put (put S a o) b u = put (put S b u) a o := by
  funext c; unfold put
  by_cases h1 : c = a
  · subst h1; simp [h]
  · by_cases h2 : c = b
    · subst h2; simp [h1]
    · simp [h1, h2]
def Sub (S T : Sto) : Prop := ∀ a o, S a = some o → T a = some o
theorem Sub.refl (S : Sto) : Sub S S := fun _ _ h => h
theorem Sub.trans {S T U : Sto} (a : Sub S T) (b : Sub T U) : Sub S U := fun c o h => b c o (a c o h)
theorem Sub.put {S : Sto} {p : Addr} {o : MO} (h : S p = none) : Sub S (put S p o) := fun a u e => by
  have : a ≠ p := fun z => by subst z; rw [h] at e; cases e
  rw [put_ne this]; exact e
def SqR (K : PySem.W.Frag) (H : Hp) (a : Addr) (xs : List V) : Prop :=
  (∃ o, H a = some (.frz o (.lst xs))) ∨
    ∃ (o : Obj) (its : Array Value) (n : Nat), K.lookup a = some o ∧ o.cls = .type "list" ∧ o.dict = none ∧ o.data = .seq its n ∧ its.size ≤ sizeLine ∧ Vals xs its.toList
theorem SqR.sql {K : PySem.W.Frag} {H : Hp} {a : Addr} {xs : List V} (h : SqR K H a xs) : SqL K H a xs := h.elim (fun q => .inl (.inr q)) .inr
mutual
inductive RepW (K : PySem.W.Frag) (H : Hp) : W → V → Prop
  | non : RepW K H .non .non
  | bl (b : Bool) : RepW K H (.bl b) (.bl b)
  | int (i : Int) : RepW K H (.int i) (.int i)
  | str (x : Str) : RepW K H (.str x) (.str x)
  | ref (a : Addr) : RepW K H (.ref a) (.ref a)
  | ty (n : String) : RepW K H (.ty n) (.ty n)
  | tup {ws : List W} {a : Addr} {vs : List V} : H a = some (.tup vs) → RepWs K H ws vs → RepW K H (.tup ws) (.ref a)
  | rol {ws : List W} {a : Addr} {vs : List V} : SqR K H a vs → RepWs K H ws vs → RepW K H (.rol ws) (.ref a)
inductive RepWs (K : PySem.W.Frag) (H : Hp) : List W → List V → Prop
  | nil : RepWs K H [] []
  | cons {w : W} {ws : List W} {v : V} {vs : List V} : RepW K H w v → RepWs K H ws vs → RepWs K H (w :: ws) (v :: vs)
end
section
variable {K : PySem.W.Frag} {H H' : Hp}
def Stay (K : PySem.W.Frag) (H H' : Hp) : Prop := (∀ a vs, H a = some (HO.tup vs) → H' a = some (HO.tup vs)) ∧ ∀ a vs, SqR K H a vs → SqR K H' a vs
mutual
theorem RepW.mono (h : Stay K H H') : ∀ {w : W} {v : V}, RepW K H w v → RepW K H' w v
  | _, _, .non => .non
  | _, _, .bl b => .bl b
  | _, _, .int i => .int i
  | _, _, .str x => .str x
  | _, _, .ref a => .ref a
  | _, _, .ty n => .ty n
  | _, _, .tup q r => .tup (h.1 _ _ q) (RepWs.mono h r)
  | _, _, .rol q r => .rol (h.2 _ _ q) (RepWs.mono h r)
theorem RepWs.mono (h : Stay K H H') : ∀ {ws : List W} {vs : List V}, RepWs K H ws vs → RepWs K H' ws vs
  | _, _, .nil => .nil
  | _, _, .cons r t => .cons (RepW.mono h r) (RepWs.mono h t)
end
theorem RepWs.length : ∀ {ws : List W} {vs : List V}, RepWs K H ws vs → ws.length = vs.length
  | _, _, .nil => rfl
  | _, _, .cons _ t => by simp [RepWs.length t]
theorem RepWs.get : ∀ {ws : List W} {vs : List V} {i : Nat} {w : W}, RepWs K H ws vs → ws[i]? = some w → ∃ v, vs[i]? = some v ∧ RepW K H w v
  | _, _, _, _, .nil, e => by simp at e
  | _, _, 0, _, .cons r _, e => by simp at e; subst e; exact ⟨_, rfl, r⟩
  | _, _, i + 1, w, .cons _ t, e => by
    obtain ⟨u, h1, h2⟩ := RepWs.get (i := i) (w := w) t (by simpa using e)
    exact ⟨u, by simpa using h1, h2⟩
theorem RepWs.append : ∀ {ws xs : List W} {vs us : List V}, RepWs K H ws vs → RepWs K H xs us → RepWs K H (ws ++ xs) (vs ++ us)
  | _, _, _, _, .nil, s => s
  | _, _, _, _, .cons r t, s => .cons r (RepWs.append t s)
theorem RepWs.take : ∀ {ws : List W} {vs : List V} (n : Nat), RepWs K H ws vs → RepWs K H (ws.take n) (vs.take n)
  | _, _, 0, _ => by simp; exact .nil
  | _, _, _ + 1, .nil => .nil
  | _, _, n + 1, .cons r t => .cons r (RepWs.take n t)
theorem RepWs.drop : ∀ {ws : List W} {vs : List V} (n : Nat), RepWs K H ws vs → RepWs K H (ws.drop n) (vs.drop n)
  | _, _, 0, r => r
  | _, _, _ + 1, .nil => .nil
  | _, _, n + 1, .cons _ t => RepWs.drop n t
theorem RepWs.set {w : W} {v : V} (r : RepW K H w v) : ∀ {ws : List W} {vs : List V} (n : Nat), RepWs K H ws vs → RepWs K H (ws.set n w) (vs.set n v)
  | _, _, _, .nil => .nil
  | _, _, 0, .cons _ t => .cons r t
  | _, _, n + 1, .cons q t => .cons q (RepWs.set r n t)
theorem RepWs.eraseIdx : ∀ {ws : List W} {vs : List V} (n : Nat), RepWs K H ws vs → RepWs K H (ws.eraseIdx n) (vs.eraseIdx n)
  | _, _, _, .nil => .nil
  | _, _, 0, .cons _ t => t
  | _, _, n + 1, .cons q t => .cons q (RepWs.eraseIdx n t)
theorem RepWs.reverse : ∀ {ws : List W} {vs : List V}, RepWs K H ws vs → RepWs K H ws.reverse vs.reverse
  | _, _, .nil => .nil
  | _, _, .cons r t => by simp only [List.reverse_cons]; exact RepWs.append (RepWs.reverse t) (.cons r .nil)
theorem RepWs.dropLast {ws : List W} {vs : List V} (h : RepWs K H ws vs) : RepWs K H ws.dropLast vs.dropLast := by
  rw [List.dropLast_eq_take, List.dropLast_eq_take, h.length]; exact h.take _
theorem RepWs.ints : ∀ {ns : List Int} {vs : List V}, RepWs K H (ns.map W.int) vs → vs = ns.map V.int
  | [], _, .nil => rfl
  | _ :: _, _, .cons (.int i) t => by rw [RepWs.ints t]; rfl
theorem RepWs.ofInts : ∀ (ns : List Int), RepWs K H (ns.map W.int) (ns.map V.int)
  | [] => .nil
  | _ :: r => .cons (.int _) (RepWs.ofInts r)
theorem RepWs.bls : ∀ {bs : List Bool} {vs : List V}, RepWs K H (bs.map W.bl) vs → vs = bs.map V.bl
  | [], _, .nil => rfl
  | _ :: _, _, .cons (.bl i) t => by rw [RepWs.bls t]; rfl
end
def RepF {κ : Type} (K : PySem.W.Frag) (H : Hp) : List (κ × W) → List (κ × V) → Prop
  | [], [] => True
  | (f, w) :: r, (g, v) :: t => f = g ∧ RepW K H w v ∧ RepF K H r t
  | _, _ => False
def FzAt (H : Hp) (a : Addr) (u : HO) : Bool → Prop
  | false => H a = some u
  | true => ∃ o, H a = some (.frz o u)
def RepO (K : PySem.W.Frag) (H : Hp) : MO → Addr → Prop
  | .dk fz kvs, a => ∃ vs, FzAt H a (.dK vs) fz ∧ RepF K H kvs vs
  | .dt fz kvs, a => ∃ vs, FzAt H a (.dT vs) fz ∧ RepF K H kvs vs
  | .lst ws, a => ∃ vs, H a = some (.lst vs) ∧ RepWs K H ws vs
  | .dn kvs, a => ∃ xs vs, NdAt H a xs vs ∧ RepF K H kvs vs
  | .ins C fs, a => ∃ dx vfs, H a = some (.ins C dx vfs) ∧ RepF K H fs vfs
def StOk (K : PySem.W.Frag) (S : Sto) (H : Hp) : Prop := ∀ a o, S a = some o → RepO K H o a
structure Gd (K : PySem.W.Frag) (σ : Envr) (S : Sto) (Z : L2.St) (H : Hp) : Prop where
  len : σ.length = Z.length
  sl : ∀ (i : Nat) (w : W), σ[i]? = some (some w) → ∃ v : V, Z[i]? = some (some v) ∧ RepW K H w v
  st : StOk K S H
structure Ext (S : Sto) (H : Hp) (S' : Sto) (H' : Hp) : Prop where
  fr : ∀ a o, H a = some o → S a = none → H' a = some o
  dm : ∀ a, S' a ≠ none → S a ≠ none ∨ H a = none
  th : ∀ a, H a ≠ none → H' a ≠ none
  fz : ∀ a o u, H a = some (.frz o u) → H' a = some (.frz o u)
theorem upd_th {H : Hp} {p a : Addr} {o : HO} (h : H a ≠ none) : upd H p o a ≠ none := by
  unfold upd; split
  · exact fun z => by cases z
  · exact h
section
variable {K : PySem.W.Frag} {S S1 S2 S' : Sto} {H H1 H2 H' : Hp} {σ : Envr} {Z : L2.St}
theorem Ext.refl : Ext S H S H := ⟨fun _ _ e _ => e, fun _ w => .inl w, fun _ h => h, fun _ _ _ h => h⟩
theorem Ext.trans (a : Ext S H S1 H1) (b : Ext S1 H1 S2 H2) : Ext S H S2 H2 where
  fr := fun c o e n => b.fr c o (a.fr c o e n) (by
    cases q : S1 c with
    | none => rfl
    | some m =>
      rcases a.dm c (by rw [q]; exact fun z => by cases z) with z | z
      · exact (z n).elim
      · rw [z] at e; cases e)
  dm := fun c w => by
    rcases b.dm c w with z | z
    · exact a.dm c z
    · cases q : S c with
      | some m => exact .inl fun z => by cases z
      | none =>
        refine .inr ?_
        cases e : H c with
        | none => rfl
        | some o => rw [a.fr c o e q] at z; cases z
  th := fun c h => b.th c (a.th c h)
  fz := fun c o u h => b.fz c o u (a.fz c o u h)
theorem Ext.sub (h : Sub S' S) : Ext S H S' H := ⟨fun _ _ e _ => e, fun a n => .inl (by
  cases q : S' a with
  | none => exact (n q).elim
  | some o => rw [h a o q]; exact fun z => by cases z), fun _ h => h, fun _ _ _ h => h⟩
theorem StOk.sub (g : StOk K S H) (h : Sub S' S) : StOk K S' H := fun a o e => g a o (h a o e)
def Knowable : HO → Prop
  | .lst _ => True
  | .ins _ _ _ => True
  | .dK _ => True
  | .dT _ => True
  | .frz _ (.dK _) => True
  | .frz _ (.dT _) => True
  | .ext _ => True
  | _ => False
theorem FzAt.there {H : Hp} {a : Addr} {u : HO} {b : Bool} (h : FzAt H a u b) : H a ≠ none := fun z => by
  cases b with
  | false => rw [show H a = some u from h] at z; cases z
  | true => obtain ⟨o, e⟩ := h; rw [e] at z; cases z
theorem StOk.unknown (g : StOk K S H) {a : Addr} {o : HO} (e : H a = some o) (h : ¬ Knowable o) : S a = none := by
  cases em : S a with
  | none => rfl
  | some m =>
    have q := g a m em
    cases m with
    | lst ws => obtain ⟨vs, e', _⟩ := q; rw [e] at e'; cases e'; exact (h trivial).elim
    | ins C fs => obtain ⟨dx, vfs, e', _⟩ := q; rw [e] at e'; cases e'; exact (h trivial).elim
    | dk fz kvs =>
      obtain ⟨vs, e', _⟩ := q
      cases fz with
      | false => rw [show H a = some (.dK vs) from e'] at e; cases e; exact (h trivial).elim
      | true => obtain ⟨o, e'⟩ := e'; rw [e] at e'; cases e'; exact (h trivial).elim
    | dt fz kvs =>
      obtain ⟨vs, e', _⟩ := q
      cases fz with
      | false => rw [show H a = some (.dT vs) from e'] at e; cases e; exact (h trivial).elim
      | true => obtain ⟨o, e'⟩ := e'; rw [e] at e'; cases e'; exact (h trivial).elim
    | dn kvs => obtain ⟨xs, vs, n, _⟩ := q; have e' := n.at_; rw [e] at e'; cases e'; exact (h trivial).elim
theorem StOk.free (g : StOk K S H) {p : Addr} (hp : H p = none) : S p = none := by
  cases e : S p with
  | none => rfl
  | some o =>
    have q := g p o e
    cases o with
    | lst ws => obtain ⟨vs, e', _⟩ := q; rw [hp] at e'; cases e'
    | ins C fs => obtain ⟨dx, vs, e', _⟩ := q; rw [hp] at e'; cases e'
    | dk fz kvs => obtain ⟨vs, e', _⟩ := q; exact (e'.there hp).elim
    | dt fz kvs => obtain ⟨vs, e', _⟩ := q; exact (e'.there hp).elim
    | dn kvs => obtain ⟨xs, vs, n, _⟩ := q; have e' := n.at_; rw [hp] at e'; cases e'
theorem Ext.stay (x : Ext S H S' H') (g : StOk K S H) : Stay K H H' := by
  have h0 : ∀ {a : Addr} {o : HO}, H a = some o → ¬ Knowable o → H' a = some o := fun e h => x.fr _ _ e (g.unknown e h)
  refine ⟨fun a vs h => ?_, fun a vs h => ?_⟩
  · exact h0 h fun z => z
  · rcases h with ⟨o, h⟩ | h
    · exact .inl ⟨o, h0 h fun z => z⟩
    · exact .inr h
theorem Ext.rep (x : Ext S H S' H') (g : StOk K S H) {w : W} {v : V} (r : RepW K H w v) : RepW K H' w v := r.mono (x.stay g)
theorem Ext.reps (x : Ext S H S' H') (g : StOk K S H) {ws : List W} {vs : List V} (r : RepWs K H ws vs) : RepWs K H' ws vs := r.mono (x.stay g)
theorem Gd.next (g : Gd K σ S Z H) (x : Ext S H S' H') (s : StOk K S' H') : Gd K σ S' Z H' :=
  ⟨g.len, fun i w e => let ⟨v, h, r⟩ := g.sl i w e; ⟨v, h, x.rep g.st r⟩, s⟩
theorem Gd.set (g : Gd K σ S Z H) {w : W} {v : V} (r : RepW K H w v) (i : Nat) : Gd K (σ.set i (some w)) S (Z.set i (some v)) H where
  len := by simp [g.len]
  sl := fun j u e => by
    rw [List.getElem?_set] at e ⊢
    by_cases h : i = j
    · subst h
      rw [if_pos rfl] at e ⊢
      by_cases hl : i < σ.length
      · rw [if_pos hl] at e
        rw [if_pos (g.len ▸ hl)]
        cases e
        exact ⟨v, rfl, r⟩
      · rw [if_neg hl] at e; cases e
    · rw [if_neg h] at e ⊢
      exact g.sl j u e
  st := g.st
theorem RepF.mono {κ : Type} (h : Stay K H H') : ∀ {fs : List (κ × W)} {vs : List (κ × V)}, RepF K H fs vs → RepF K H' fs vs
  | [], [], r => r
  | (_, _) :: _, (_, _) :: _, ⟨e, r, t⟩ => ⟨e, r.mono h, RepF.mono h t⟩
  | [], _ :: _, r => r.elim
  | _ :: _, [], r => r.elim
theorem NdAt.mono {a : Addr} {xs : List NX} {vs : List (NK × V)} (n : NdAt H a xs vs) (s : Stay K H H') (h : ∀ v, H a = some v → H' a = some v) : NdAt H' a xs vs := ⟨h _ n.at_, n.r.mono s.1, n.nd, n.sz⟩
theorem RepO.keep (x : Ext S H S' H') (g : StOk K S H) {o : MO} {a : Addr} (r : RepO K H o a) (n : ∀ v, H a = some v → H' a = some v) : RepO K H' o a := by
  cases o with
  | lst ws => obtain ⟨vs, e, t⟩ := r; exact ⟨vs, n _ e, x.reps g t⟩
  | ins C fs => obtain ⟨dx, vs, e, t⟩ := r; exact ⟨dx, vs, n _ e, t.mono (x.stay g)⟩
  | dk fz kvs =>
    obtain ⟨vs, e, t⟩ := r
    refine ⟨vs, ?_, t.mono (x.stay g)⟩
    cases fz with
    | false => exact n _ e
    | true => obtain ⟨o, e⟩ := e; exact ⟨o, n _ e⟩
  | dt fz kvs =>
    obtain ⟨vs, e, t⟩ := r
    refine ⟨vs, ?_, t.mono (x.stay g)⟩
    cases fz with
    | false => exact n _ e
    | true => obtain ⟨o, e⟩ := e; exact ⟨o, n _ e⟩
  | dn kvs => obtain ⟨xs, vs, e, t⟩ := r; exact ⟨xs, vs, e.mono (x.stay g) n, t.mono (x.stay g)⟩
theorem Ext.new {p : Addr} {o : HO} {m : MO} (hp : H p = none) : Ext S H (put S p m) (upd H p o) where
  fr := fun a u e _ => by
    have : a ≠ p := ne_of_none e hp
    rw [upd_ne this]; exact e
  dm := fun a n => by
    by_cases h : a = p
    · subst h; exact .inr hp
    · rw [put_ne h] at n; exact .inl n
  th := fun _ h => upd_th h
  fz := fun a _ _ e => by
    have : a ≠ p := ne_of_none e hp
    rw [upd_ne this]; exact e
theorem Ext.fresh {p : Addr} {o : HO} (hp : H p = none) : Ext S H S (upd H p o) where
  fr := fun a u e _ => by
    have : a ≠ p := ne_of_none e hp
    rw [upd_ne this]; exact e
  dm := fun a w => .inl w
  th := fun _ h => upd_th h
  fz := fun a _ _ e => by
    have : a ≠ p := ne_of_none e hp
    rw [upd_ne this]; exact e
theorem Ext.write {p : Addr} {o : HO} {m : MO} (w : S p ≠ none) (nf : ∀ d u, H p ≠ some (.frz d u)) : Ext S H (put S p m) (upd H p o) where
  fr := fun a u e n => by
    have : a ≠ p := fun z => w (z ▸ n)
    rw [upd_ne this]; exact e
  dm := fun a n => by
    by_cases h : a = p
    · subst h; exact .inl w
    · rw [put_ne h] at n; exact .inl n
  th := fun _ h => upd_th h
  fz := fun a d u e => by
    have : a ≠ p := fun z => nf d u (z ▸ e)
    rw [upd_ne this]; exact e
theorem StOk.nfL {p : Addr} {ws : List W} (g : StOk K S H) (h : S p = some (.lst ws)) : ∀ d u, H p ≠ some (.frz d u) := fun d u z => by
  obtain ⟨vs, e, _⟩ := g _ _ h; rw [e] at z; cases z
theorem StOk.nfI {p C : Addr} {ws : List (Str × W)} (g : StOk K S H) (h : S p = some (.ins C ws)) : ∀ d u, H p ≠ some (.frz d u) := fun d u z => by
  obtain ⟨dx, vs, e, _⟩ := g _ _ h; rw [e] at z; cases z
theorem StOk.nfK {p : Addr} {ws : List (Key × W)} (g : StOk K S H) (h : S p = some (.dk false ws)) : ∀ d u, H p ≠ some (.frz d u) := fun d u z => by
  obtain ⟨vs, e, _⟩ := g _ _ h; rw [show H p = some (.dK vs) from e] at z; cases z
theorem StOk.nfT {p : Addr} {ws : List (List Key × W)} (g : StOk K S H) (h : S p = some (.dt false ws)) : ∀ d u, H p ≠ some (.frz d u) := fun d u z => by
  obtain ⟨vs, e, _⟩ := g _ _ h; rw [show H p = some (.dT vs) from e] at z; cases z
theorem StOk.nfN {p : Addr} {ws : List (NK × W)} (g : StOk K S H) (h : S p = some (.dn ws)) : ∀ d u, H p ≠ some (.frz d u) := fun d u z => by
  obtain ⟨xs, vs, n, _⟩ := g _ _ h; have e := n.at_; rw [z] at e; cases e
theorem StOk.put_at {p : Addr} {m : MO} (g : StOk K S H) (x : Ext S H (put S p m) H') (n : ∀ a v, a ≠ p → H a = some v → H' a = some v) (r : RepO K H' m p) : StOk K (put S p m) H' := fun a o e => by
  by_cases h : a = p
  · subst h; rw [put_same] at e; cases e; exact r
  · rw [put_ne h] at e; exact RepO.keep x g (g a o e) fun v q => n a v h q
theorem StOk.same (g : StOk K S H) (x : Ext S H S H') (n : ∀ a v, H a = some v → H' a = some v) : StOk K S H' := fun a o e => RepO.keep x g (g a o e) (n a)
theorem StOk.fresh {p : Addr} {o : HO} (g : StOk K S H) (hp : H p = none) : StOk K S (upd H p o) := g.same (Ext.fresh hp) fun a v e => by rw [upd_ne (ne_of_none e hp)]; exact e
theorem StOk.setLst {p : Addr} {ws ws0 : List W} {vs : List V} (g : StOk K S H) (h : S p = some (.lst ws0)) (r : RepWs K H ws vs) : StOk K (put S p (.lst ws)) (upd H p (.lst vs)) := by
  have x : Ext S H (put S p (.lst ws)) (upd H p (.lst vs)) := Ext.write (by rw [h]; exact fun z => by cases z) (g.nfL h)
  exact g.put_at x (fun a v h e => by rw [upd_ne h]; exact e) ⟨vs, upd_same, x.reps g r⟩
theorem Ext.free (x : Ext S H S' H') {p : Addr} (h : H' p = none) : H p = none := by
  cases e : H p with
  | none => rfl
  | some o => exact (x.th p (by rw [e]; exact fun z => by cases z) h).elim
theorem Ext.mat {p : Addr} {m : MO} (x : Ext S H S' H') (hp : H p = none) : Ext S H (put S' p m) H' :=
  ⟨x.fr, fun a n => by
    by_cases h : a = p
    · subst h; exact .inr hp
    · rw [put_ne h] at n; exact x.dm a n, x.th, x.fz⟩
theorem StOk.mat {p : Addr} {m : MO} (g : StOk K S H) (r : RepO K H m p) : StOk K (put S p m) H := fun a o e => by
  by_cases h : a = p
  · subst h; rw [put_same] at e; cases e; exact r
  · rw [put_ne h] at e; exact g a o e
end
abbrev WQ := W → Sto → Prop
abbrev XQ := Addr → Sto → Prop
abbrev MSp := List W → Sto → WQ → XQ → Prop
abbrev noX : XQ := fun _ _ => False
structure Gs where
  fn : Nat → MSp
  cl : Nat → Addr
  ex : List Nat := []
  hx : Option (Addr × Nat) := none
instance : CoeFun Gs (fun _ => Nat → MSp) := ⟨Gs.fn⟩
inductive LK where
  | ls | ro | tu
abbrev LQ := List W → LK → (Sto → Prop) → Sto → Prop
inductive BOp where
  | add | sub | mul | fdiv | mod | pow
inductive COp where
  | lt | le | gt | ge | eq | ne
mutual
inductive IE where
  | var (i : Nat)
  | cst (w : W)
  | bin (op : BOp) (a b : IE)
  | neg (a : IE)
  | cmp (op : COp) (a b : IE)
  | chn (o p : COp) (a b c : IE)
  | isN (k : Bool) (a : IE)
  | isB (k : Bool) (a : IE) (b : Bool)
  | inn (k : Bool) (a b : IE)
  | and (a b : IE)
  | or (a b : IE)
  | not (a : IE)
  | ite (c a b : IE)
  | tup (es : IEs)
  | idx (a i : IE)
  | slc (a : IE) (lo hi : IO)
  | call (f : Nat) (es : IEs)
  | isa (a : IE) (t : String)
  | mx (a b : IE)
  | mn (a b : IE)
  | len (a : IE)
  | mat (t : IT)
  | tupl (l : IL)
  | sum (l : IL)
  | any (l : IL)
  | all (l : IL)
  | max1 (l : IL)
  | min1 (l : IL)
  | idl (l : IL) (i : IE)
  | eql (k : Bool) (a b : IL)
  | app (o e : IE)
  | ext (o : IE) (l : IL)
  | pop0 (o : IE)
  | pop1 (o i : IE)
  | fld (c : Nat) (o : IE) (f : Str)
  | meth (f c : Nat) (m : Str) (o : IE) (es : IEs)
  | make (f c : Nat) (es : IEs)
  | glb (x : Str) (k : Key)
  | isx (o : IE) (c : Option Nat)
  | isxT (o : IE) (cs : List Nat)
  | isC (o : IE) (c : Nat)
  | joinT (s e : IE)
  | revT (a : IE)
  | eqE (a b : IE)
  | join (s : IE) (l : IL)
  | strI (a : IE)
  | intE (a : IE)
  | absI (a : IE)
  | ins (o i x : IE)
  | rem (o x : IE)
  | ixo (o x : IE)
  | revm (o : IE)
  | clr (o : IE)
  | dnew (t : Bool)
  | dnewN
  | dem (k : Bool) (a : IE)
  | dget (d k x : IE)
  | dpop (d k : IE)
  | deq (k : Bool) (a b : IE)
  | ddsp (ks : List Key) (es : IEs)
  | setd (d k e : IE)
inductive IEs where
  | nil
  | cons (e : IE) (es : IEs)
inductive IO where
  | none
  | some (e : IE)
inductive IT where
  | dsp (es : IEs)
  | cat (a b : IL)
  | slc (a : IL) (lo hi : IO)
  | rev (a : IL)
  | lst (a : IL)
  | srt (a : IL)
  | sset (a : IL)
  | comp (e : IE) (g : IG) (it : II) (own : List Nat)
  | rep (a : IL) (n : IE)
  | compif (e c : IE) (g : IG) (it : II) (own : List Nat)
  | srtd (d : IE)
  | srtD (a : IL)
  | lck (t : IT)
  | chr (e : IE)
  | rga (a b : IE)
  | spl (e s : IE)
inductive IL where
  | t (t : IT)
  | of (e : IE)
  | tk (t : IT)
inductive IG where
  | nm (i : Nat)
  | tup (gs : IGs)
  | unl (gs : IGs)
  | sub (o i : IE)
  | slc (o lo hi : IE)
  | slo (o : IE) (lo hi : IO)
inductive IGs where
  | nil
  | cons (g : IG) (gs : IGs)
inductive II where
  | lst (l : IL)
  | rng (e : IE)
  | rng2 (a b : IE)
  | zip (a b : IL)
  | enm (a : IL)
  | rngd (a b c : IE)
  | keys (e : IE)
  | chr (e : IE)
  | zipg (x y : Str) (xs ys : List Key)
end
mutual
inductive IS where
  | set (i : Nat) (e : IE)
  | asg (g : IG) (e : IE)
  | par (i j : Nat) (a b : IE)
  | aug (i : Nat) (op : BOp) (e : IE)
  | exp (e : IE)
  | ret (e : IE)
  | retN
  | pas
  | brk
  | cnt
  | iff (c : IE) (a b : ISs)
  | whl (c : IE) (b : ISs)
  | for (g : IG) (it : II) (b : ISs)
  | rse (c : Nat)
  | sfl (c : Nat) (o : IE) (f : Str) (e : IE)
  | tryO (b : ISs) (c : Nat) (s : ISs)
  | tryA (b : ISs) (c i : Nat) (s : ISs)
  | ford (g : IG) (i : Nat) (b : ISs)
  | augx (o i : IE) (op : BOp) (e : IE)
  | lck (s : IS)
inductive ISs where
  | nil
  | cons (s : IS) (r : ISs)
end
def getv (σ : Envr) (i : Nat) : Option W := match σ[i]? with
  | some (some w) => some w
  | _ => none
def wipeW (σ : Envr) : List Nat → Envr
  | [] => σ
  | v :: vs => (wipeW σ vs).set v none
def mulOk (i j : Int) : Prop := i.natAbs.log2 + j.natAbs.log2 < 100000000
def divOk (j : Int) : Prop := 0 < j ∧ j.natAbs.log2 < 9000
def powOk (i j : Int) : Prop := 0 ≤ j ∧ j ≤ 1000000 ∧ i.natAbs < 2 ^ 64
def binW (op : BOp) (x y : W) (Q : W → Prop) : Prop := match op, x, y with
  | .add, .int i, .int j => Q (.int (i + j))
  | .add, .str x, .str y => x.length + y.length ≤ sizeLine ∧ Q (.str (x ++ y))
  | .add, .tup x, .tup y => x.length + y.length ≤ sizeLine ∧ Q (.tup (x ++ y))
  | .sub, .int i, .int j => Q (.int (i - j))
  | .mul, .int i, .int j => mulOk i j ∧ Q (.int (i * j))
  | .mul, .str x, .int n => (0 ≤ n ∧ n ≤ 1000000) ∧ x.length * n.toNat ≤ 1000000 ∧ Q (.str (Txt.mul x n))
  | .fdiv, .int i, .int j => divOk j ∧ Q (.int (i / j))
  | .mod, .int i, .int j => 0 < j ∧ Q (.int (i % j))
  | .pow, .int i, .int j => powOk i j ∧ Q (.int (i ^ j.toNat))
  | _, _, _ => False
mutual
def W.dat : W → PyData
  | .non => .none
  | .bl b => .bool b
  | .int i => .int i
  | .str x => .str x
  | .tup ws => .tuple (W.dats ws)
  | .rol ws => .list (W.dats ws)
  | .ref _ => .none
  | .ty _ => .none
def W.dats : List W → List PyData
  | [] => []
  | w :: ws => W.dat w :: W.dats ws
end
mutual
def W.pure : W → Bool
  | .non => true
  | .bl _ => true
  | .int _ => true
  | .str _ => true
  | .tup ws => W.pures ws
  | .rol ws => W.pures ws
  | .ref _ => false
  | .ty _ => false
def W.pures : List W → Bool
  | [] => true
  | w :: ws => W.pure w && W.pures ws
end
def W.eqOk (w : W) : Prop := w.pure = true ∧ SeqAt.shaped w.dat = true
def W.eqsOk (ws : List W) : Prop := W.pures ws = true ∧ SeqAt.shaped (.list (W.dats ws)) = true
def W.eqv (a b : W) : Bool := PyData.eqv a.dat b.dat
def W.eqvs (a b : List W) : Bool := PyData.eqvAll (W.dats a) (W.dats b)
def cmpW (op : COp) (x y : W) (Q : Bool → Prop) : Prop := match op with
  | .eq => x.eqOk ∧ y.eqOk ∧ Q (x.eqv y)
  | .ne => x.eqOk ∧ y.eqOk ∧ Q (!x.eqv y)
  | .lt => match x, y with
    | .int i, .int j => Q (decide (i < j))
    | _, _ => False
  | .le => match x, y with
    | .int i, .int j => Q (decide (i ≤ j))
    | _, _ => False
  | .gt => match x, y with
    | .int i, .int j => Q (decide (j < i))
    | _, _ => False
  | .ge => match x, y with
    | .int i, .int j => Q (decide (j ≤ i))
    | _, _ => False
def isNon : W → Bool
  | .non => true
  | _ => false
def W.flat : W → Bool
  | .non => true
  | .bl _ => true
  | .int _ => true
  | .str _ => true
  | _ => false
def flEq : W → W → Bool
  | .non, .non => true
  | .bl a, .bl b => a == b
  | .bl a, .int b => (if a then 1 else 0) == b
  | .int a, .bl b => a == (if b then 1 else 0)
  | .int a, .int b => a == b
  | .str a, .str b => a == b
  | _, _ => false
def intsOf : List W → Option (List Int)
  | [] => some []
  | .int i :: r => (intsOf r).map (i :: ·)
  | _ :: _ => none
def nkW : W → Option NK
  | .non => some none
  | .tup ws => (intsOf ws).map some
  | _ => none
def keyW : W → Option Key
  | .int i => some (.inl i)
  | .str x => some (.inr x)
  | _ => none
def keysW : List W → Option (List Key)
  | [] => some []
  | w :: r => match keyW w, keysW r with
    | some k, some l => some (k :: l)
    | _, _ => none
def tkeyW : W → Option (List Key)
  | .tup ws => keysW ws
  | _ => none
section
variable {κ : Type} [DecidableEq κ]
def valD (kvs : List (κ × W)) (k : κ) : Option W := (kvs.find? fun kv => decide (kv.1 = k)).map (·.2)
def putD (kvs : List (κ × W)) (k : κ) (v : W) : List (κ × W) :=
  if (kvs.any fun kv => decide (kv.1 = k)) = true then kvs.map (fun kv => if kv.1 = k then (kv.1, v) else kv) else kvs ++ [(k, v)]
def dropD (kvs : List (κ × W)) (k : κ) : List (κ × W) := kvs.filter fun kv => decide (kv.1 ≠ k)
end
def hasD {κ : Type} [DecidableEq κ] (o : Option κ) (kvs : List (κ × W)) (Q : Bool → Prop) : Prop := match o with
  | some k => Q (valD kvs k).isSome
  | none => False
def inWs (x : W) (ws : List W) (Q : Bool → Prop) : Prop := x.flat = true ∧ ws.all W.flat = true ∧ Q (ws.any fun z => flEq z x)
def inW (x y : W) (Q : Bool → Prop) (S : Sto) : Prop := match y with
  | .tup ws => inWs x ws Q
  | .rol ws => inWs x ws Q
  | .ref a => match S a with
    | some (.lst ws) => inWs x ws Q
    | some (.dk _ kvs) => (match x with
      | .non => Q false
      | x => hasD (keyW x) kvs Q)
    | some (.dt _ kvs) => hasD (tkeyW x) kvs Q
    | some (.dn kvs) => hasD (nkW x) kvs Q
    | _ => False
  | .str z => match x with
    | .str c => ∃ d, c = ⟨#[d]⟩ ∧ Q (decide (d ∈ z.cps.toList))
    | _ => False
  | _ => False
def idxW (x y : W) (S : Sto) : Option W := match x, y with
  | .tup ws, .int i => atI ws i
  | .rol ws, .int i => atI ws i
  | .ref a, y => match S a with
    | some (.lst ws) => (match y with
      | .int i => atI ws i
      | _ => none)
    | some (.dk _ kvs) => (keyW y).bind (valD kvs)
    | some (.dt _ kvs) => (tkeyW y).bind (valD kvs)
    | some (.dn kvs) => (nkW y).bind (valD kvs)
    | _ => none
  | .str x, .int i => if x.length ≤ sizeLine then (atI x.cps.toList i).map fun c => .str ⟨#[c]⟩ else none
  | _, _ => none
def lenW (x : W) (S : Sto) : Option Nat := match x with
  | .tup ws => some ws.length
  | .rol ws => some ws.length
  | .str x => if x.length ≤ sizeLine then some x.length else none
  | .ref a => match S a with
    | some (.lst ws) => some ws.length
    | some (.dk false kvs) => some kvs.length
    | some (.dt false kvs) => some kvs.length
    | _ => none
  | _ => none
def cutW {α : Type} (xs : List α) (lo hi : Option Int) : List α := (xs.drop (HT.sIx xs.length 0 lo)).take (HT.sIx xs.length xs.length hi - HT.sIx xs.length 0 lo)
def tyW (w : W) (S : Sto) : Option String := match w with
  | .non => some "NoneType"
  | .bl _ => some "bool"
  | .int _ => some "int"
  | .str _ => some "str"
  | .tup _ => some "tuple"
  | .rol _ => some "list"
  | .ref a => match S a with
    | some (.lst _) => some "list"
    | some (.dk false _) => some "dict"
    | some (.dt false _) => some "dict"
    | _ => none
  | .ty _ => none
def isaW (x : W) (t : String) (S : Sto) : Option Bool := (tyW x S).map fun u => u == t || (u == "bool" && t == "int")
def demW (x : W) (S : Sto) (Q : Bool → Prop) : Prop := match x with
  | .ref a => (match S a with
    | some (.dk false kvs) => Q kvs.isEmpty
    | _ => False)
  | _ => False
def setW (x y w : W) (S : Sto) (Q : Sto → Prop) : Prop := match x with
  | .ref a => (match S a with
    | some (.lst ws) => (match y with
      | .int k => (match ixN ws.length k with
        | some j => Q (put S a (.lst (ws.set j w)))
        | none => False)
      | _ => False)
    | some (.dk false kvs) => (match keyW y with
      | some k => kvs.length < sizeLine ∧ Q (put S a (.dk false (putD kvs k w)))
      | none => False)
    | some (.dt false kvs) => (match tkeyW y with
      | some k => kvs.length < sizeLine ∧ Q (put S a (.dt false (putD kvs k w)))
      | none => False)
    | some (.dn kvs) => (match nkW y with
      | some k => kvs.length < sizeLine ∧ Q (put S a (.dn (putD kvs k w)))
      | none => False)
    | _ => False)
  | _ => False
def isLst (x : W) (S : Sto) : Prop := match x with
  | .ref a => (match S a with
    | some (.lst _) => True
    | _ => False)
  | _ => False
def IGs.len : IGs → Nat
  | .nil => 0
  | .cons _ gs => gs.len + 1
def blsOf : List W → Option (List Bool)
  | [] => some []
  | .bl i :: r => (blsOf r).map (i :: ·)
  | _ :: _ => none
def keyOf2 : W → Option (Int × Int)
  | .tup [.int i, .int j] => some (i, j)
  | _ => none
def asBl (w : W) (Q : Bool → Prop) : Prop := match w with
  | .bl b => Q b
  | _ => False
def rngOk (i : Int) : Prop := -(2 ^ 62) ≤ i ∧ i < 2 ^ 62
def rngOk2 (i : Int) : Prop := -(10 ^ 90) ≤ i ∧ i < 10 ^ 90
def rngW (lo : Int) (n : Nat) : List W := (List.range n).map fun (k : Nat) => .int (lo + k)
def zipW (xs ys : List W) : List W := xs.zipWith (fun x y => .tup [x, y]) ys
def enmW (xs : List W) : List W := (List.range xs.length).zipWith (fun (k : Nat) x => .tup [.int k, x]) xs
def srtW (ws : List W) (Q : List W → Prop) : Prop :=
  match intsOf ws with
  | some ns => ∀ ns' : List Int, ns'.Perm ns → ns'.Pairwise (· ≤ ·) → Q (ns'.map W.int)
  | none => (∀ w ∈ ws, ∃ k, keyOf2 w = some k) ∧ ∀ ks : List (Int × Int), ks.Perm (ws.filterMap keyOf2) → ks.Pairwise (fun p q => p.1 < q.1 ∨ p.1 = q.1 ∧ p.2 ≤ q.2) → Q (ks.map fun p => .tup [.int p.1, .int p.2])
def sSetW (ws : List W) (Q : List W → Prop) : Prop := match intsOf ws with
  | some ns => ns.length ≤ 4000 ∧ ∀ ns' : List Int, ns'.Pairwise (· < ·) → (∀ k, k ∈ ns' ↔ k ∈ ns) → Q (ns'.map W.int)
  | none => False
def augW (op : BOp) (x y : W) (Q : W → Prop) : Prop := match op, x, y with
  | .add, .int i, .int j => Q (.int (i + j))
  | .add, .str x, .str y => x.length + y.length ≤ sizeLine ∧ Q (.str (x ++ y))
  | .sub, .int i, .int j => Q (.int (i - j))
  | _, _, _ => False
def getxW (x y : W) (S : Sto) (Q : W → Prop) : Prop := match x, y with
  | .ref a, .int k => (match S a with
    | some (.lst ws) => 0 ≤ k ∧ k < 2 ^ 63 ∧ (match ws[k.toNat]? with
      | some v => Q v
      | none => False)
    | _ => False)
  | _, _ => False
def isIns (x : W) (C : Addr) (m : Str) (S : Sto) : Prop := match x with
  | .ref a => (match S a with
    | some (.ins D fs) => D = C ∧ fs.lookup m = none
    | _ => False)
  | _ => False
def insC (x : W) (C : Addr) (S : Sto) : Prop := match x with
  | .ref a => (match S a with
    | some (.ins D _) => D = C
    | _ => False)
  | _ => False
def fldW (x : W) (C : Addr) (f : Str) (S : Sto) (Q : W → Prop) : Prop := match x with
  | .ref a => (match S a with
    | some (.ins D fs) => D = C ∧ (match fs.lookup f with
      | some w => Q w
      | none => False)
    | _ => False)
  | _ => False
def putFW (f : Str) (w : W) : List (Str × W) → List (Str × W)
  | [] => [(f, w)]
  | (g, u) :: r => if g = f then (g, w) :: r else (g, u) :: putFW f w r
def setF (x : W) (C : Addr) (f : Str) (w : W) (S : Sto) (Q : Sto → Prop) : Prop := match x with
  | .ref a => (match S a with
    | some (.ins D fs) => D = C ∧ fs.length < 1000 ∧ Q (put S a (.ins D (putFW f w fs)))
    | _ => False)
  | _ => False
def subXo (n : Nat) : Option Nat → Bool
  | none => true
  | some c => subX n c
def kW : Key → W
  | .inl i => .int i
  | .inr x => .str x
def strsOf : List W → Option (List Str)
  | [] => some []
  | .str x :: r => (strsOf r).map (x :: ·)
  | _ :: _ => none
def joinLen (s : Str) (ys : List Str) : Nat := (ys.map fun y => y.length).sum + ys.length * s.length
def eqEW (x y : W) (Q : Bool → Prop) : Prop := match x, y with
  | .tup ws, .tup [] => Q ws.isEmpty
  | _, _ => False
def joinTW (x y : W) (Q : W → Prop) : Prop := match x, y with
  | .str a, .str b => b.length + b.length * a.length ≤ 16777216 ∧ Q (.str (Txt.join a (PyProof.Rows.signs b)))
  | _, _ => False
def rgaW (x y : W) (Q : List W → Prop) : Prop := match x, y with
  | .int i, .int j => -1000000 ≤ i ∧ i ≤ 1000000 ∧ -1000000 ≤ j ∧ j ≤ 1000000 ∧ Q (rngW i (j - i).toNat)
  | _, _ => False
def joinW (x : W) (ws : List W) (Q : W → Prop) : Prop := match x, strsOf ws with
  | .str s, some ys => joinLen s ys ≤ 16777216 ∧ Q (.str (Txt.join s ys))
  | _, _ => False
def strW (x : W) (Q : W → Prop) : Prop := match x with
  | .int i => i.natAbs.log2 < 1920 ∧ Q (.str (toString i))
  | .str s => Q (.str s)
  | _ => False
def intW (x : W) (Q : W → Prop) : Prop := match x with
  | .int i => Q (.int i)
  | .bl k => Q (.int (if k then 1 else 0))
  | .str s => s.length ≤ 640 ∧ ∃ n, PySem.intText? s = some n ∧ Q (.int n)
  | _ => False
def absW (x : W) (Q : W → Prop) : Prop := match x with
  | .int i => Q (.int (if i < 0 then -i else i))
  | _ => False
def lstW (x : W) (S : Sto) (Q : Addr → List W → Prop) : Prop := match x with
  | .ref a => (match S a with
    | some (.lst ws) => Q a ws
    | _ => False)
  | _ => False
def dkW (x : W) (S : Sto) (Q : Addr → List (Key × W) → Prop) : Prop := match x with
  | .ref a => (match S a with
    | some (.dk false kvs) => Q a kvs
    | _ => False)
  | _ => False
def dgetW (x y z : W) (S : Sto) (Q : W → Prop) : Prop := match x with
  | .ref a => (match S a with
    | some (.dk _ kvs) => (match keyW y with
      | some k => Q ((valD kvs k).getD z)
      | none => False)
    | some (.dt _ kvs) => (match tkeyW y with
      | some k => Q ((valD kvs k).getD z)
      | none => False)
    | _ => False)
  | _ => False
def ixI (ns : List Int) (k : Int) (Q : Nat → Prop) : Prop := ∃ j, ns[j]? = some k ∧ (∀ m : Nat, m < j → ns[m]? ≠ some k) ∧ Q j
def remW (x y : W) (S : Sto) (Q : Sto → Prop) : Prop := lstW x S fun a ws => match intsOf ws, y with
  | some ns, .int k => ixI ns k fun j => Q (put S a (.lst ((ns.eraseIdx j).map W.int)))
  | _, _ => False
def ixoW (x y : W) (S : Sto) (Q : W → Prop) : Prop := lstW x S fun _ ws => match intsOf ws, y with
  | some ns, .int k => ixI ns k fun j => Q (.int j)
  | _, _ => False
def resL (f : W → Option PyData) : List W → Option (List PyData)
  | [] => some []
  | w :: r => match f w, resL f r with
    | some d, some ds => some (d :: ds)
    | _, _ => none
def resW (S : Sto) : Nat → W → Option PyData
  | 0, _ => none
  | n + 1, w => match w with
    | .non => some .none
    | .bl b => some (.bool b)
    | .int i => some (.int i)
    | .str x => some (.str x)
    | .tup ws => (resL (resW S n) ws).map .tuple
    | .rol ws => (resL (resW S n) ws).map .list
    | .ref a => (match S a with
      | some (.lst ws) => (resL (resW S n) ws).map .list
      | _ => none)
    | .ty _ => none
def deqW (x y : W) (S : Sto) (Q : Bool → Prop) : Prop := ∃ d d', resW S 8 x = some d ∧ resW S 8 y = some d' ∧ SeqAt.shaped d = true ∧ SeqAt.shaped d' = true ∧ Q (PyData.eqv d d')
def srtDW (ws : List W) (S : Sto) (Q : List W → Prop) : Prop := ∃ ds, resL (resW S 8) ws = some ds ∧ PySem.W.AllAlike ds ∧ PySem.W.Sortable ds ∧ Q (((ws.zip ds).mergeSort (PySem.W.dataLe false (·.2))).map (·.1))
def mkD (ks : List Key) (ws : List W) : List (Key × W) := (ks.zip ws).foldl (fun acc kv => putD acc kv.1 kv.2) []
def setdW (x y z : W) (S : Sto) (Q : W → Sto → Prop) : Prop := match x with
  | .ref a => (match S a with
    | some (.dk false kvs) => (match keyW y with
      | some k => kvs.length < sizeLine ∧ (match valD kvs k with
        | some w => Q w S
        | none => Q z (put S a (.dk false (putD kvs k z))))
      | none => False)
    | some (.dt false kvs) => (match tkeyW y with
      | some k => kvs.length < sizeLine ∧ (match valD kvs k with
        | some w => Q w S
        | none => Q z (put S a (.dt false (putD kvs k z))))
      | none => False)
    | _ => False)
  | _ => False
def srtdW (x : W) (S : Sto) (Q : List W → Prop) : Prop := match x with
  | .ref a => (match S a with
    | some (.dk false kvs) => ∃ ks : List Int, kvs.map (·.1) = ks.map Sum.inl ∧ ks.length < 64 ∧ ∀ ys : List Int, ys.Perm ks → ys.Pairwise (· ≤ ·) → Q (ys.map W.int)
    | some (.dt false kvs) => ∃ ks : List (Int × Int), kvs.map (·.1) = ks.map (fun p => [Sum.inl p.1, Sum.inl p.2]) ∧ ∀ js : List (Int × Int), js.Perm ks → js.Pairwise (fun p q => p.1 < q.1 ∨ p.1 = q.1 ∧ p.2 ≤ q.2) → Q (js.map fun p => .tup [.int p.1, .int p.2])
    | _ => False)
  | _ => False
def slsW (x i j w : W) (S : Sto) (Q : Sto → Prop) : Prop := match x, i, j, w with
  | .ref a, .int i, .int j, .ref p => p ≠ a ∧ (match S a with
    | some (.lst xs) => (match S p with
      | some (.lst ys) => 0 ≤ i ∧ i ≤ j ∧ j ≤ xs.length ∧ xs.length + ys.length ≤ sizeLine ∧ Q (put S a (.lst (xs.take i.toNat ++ ys ++ xs.drop j.toNat)))
      | _ => False)
    | _ => False)
  | _, _, _, _ => False
def sloW (x : W) (i j : Option Int) (w : W) (S : Sto) (Q : Sto → Prop) : Prop := match x, w with
  | .ref a, .ref p => p ≠ a ∧ (match S a with
    | some (.lst xs) => (match S p with
      | some (.lst ys) => HT.sIx xs.length 0 i ≤ HT.sIx xs.length xs.length j ∧ xs.length + ys.length ≤ sizeLine ∧ Q (put S a (.lst (xs.take (HT.sIx xs.length 0 i) ++ ys ++ xs.drop (HT.sIx xs.length xs.length j))))
      | _ => False)
    | _ => False)
  | _, _ => False
def sgsW (t : Str) : List W := t.cps.toList.map fun c => W.str ⟨#[c]⟩
def chrW (x : W) (Q : List W → Prop) : Prop := match x with
  | .str t => t.length ≤ sizeLine ∧ Q (sgsW t)
  | _ => False
def splW (x y : W) (Q : List W → Prop) : Prop := match x, y with
  | .str a, .str b => (b.length == 0) = false ∧ a.length + 2 ≤ sizeLine ∧ Q ((Txt.split a b).map W.str)
  | _, _ => False
def rngdW (hi : Int) (n : Nat) : List W := (List.range n).map fun (k : Nat) => .int (hi + k * -1)
def keysOf : MO → Option (List W)
  | .dk false kvs => some (kvs.map fun kv => kW kv.1)
  | .dt false kvs => some (kvs.map fun kv => .tup (kv.1.map kW))
  | _ => none
def del (S : Sto) (a : Addr) : Sto := fun b => if b = a then none else S b
structure MEnds where
  nx : Envr → Sto → Prop
  rt : WQ
  bk : Envr → Sto → Prop
  ct : Envr → Sto → Prop
  ex : Envr → XQ
section
variable (G : Gs)
mutual
def wpE : IE → Envr → Sto → WQ → XQ → Prop
  | .var i => fun σ S Q _ => match getv σ i with
    | some w => Q w S
    | none => False
  | .cst w => fun _ S Q _ => Q w S
  | .bin op a b => fun σ S Q X => wpE a σ S (fun x S1 => wpE b σ S1 (fun y S2 => binW op x y fun z => Q z S2) X) X
  | .neg a => fun σ S Q X => wpE a σ S (fun x S1 => match x with
    | .int i => Q (.int (-i)) S1
    | _ => False) X
  | .cmp op a b => fun σ S Q X => wpE a σ S (fun x S1 => wpE b σ S1 (fun y S2 => cmpW op x y fun z => Q (.bl z) S2) X) X
  | .chn o p a b c => fun σ S Q X => wpE a σ S (fun x S1 => wpE b σ S1 (fun y S2 => cmpW o x y fun z =>
      if z = true then wpE c σ S2 (fun u S3 => cmpW p y u fun z => Q (.bl z) S3) X else Q (.bl false) S2) X) X
  | .isN k a => fun σ S Q X => wpE a σ S (fun x S1 => Q (.bl (isNon x == k)) S1) X
  | .isB k a b => fun σ S Q X => wpE a σ S (fun x S1 => asBl x fun c => Q (.bl ((c == b) == k)) S1) X
  | .inn k a b => fun σ S Q X => wpE a σ S (fun x S1 => wpE b σ S1 (fun y S2 => inW x y (fun z => Q (.bl (z == k)) S2) S2) X) X
  | .and a b => fun σ S Q X => wpE a σ S (fun x S1 => asBl x fun c => if c = true then wpE b σ S1 Q X else Q (.bl false) S1) X
  | .or a b => fun σ S Q X => wpE a σ S (fun x S1 => asBl x fun c => if c = true then Q (.bl true) S1 else wpE b σ S1 Q X) X
  | .not a => fun σ S Q X => wpE a σ S (fun x S1 => asBl x fun c => Q (.bl (!c)) S1) X
  | .ite c a b => fun σ S Q X => wpE c σ S (fun x S1 => asBl x fun k => if k = true then wpE a σ S1 Q X else wpE b σ S1 Q X) X
  | .tup es => fun σ S Q X => wpEs es σ S (fun ws S1 => ws.length ≤ sizeLine ∧ Q (.tup ws) S1) X
  | .idx a i => fun σ S Q X => wpE a σ S (fun x S1 => wpE i σ S1 (fun y S2 => match idxW x y S2 with
    | some w => Q w S2
    | none => False) X) X
  | .slc a lo hi => fun σ S Q X => wpE a σ S (fun x S1 => wpO lo σ S1 (fun l S2 => wpO hi σ S2 (fun h S3 => match x with
    | .tup ws => Q (.tup (cutW ws l h)) S3
    | .str t => t.length ≤ sizeLine ∧ Q (.str (cutS t l h)) S3
    | _ => False) X) X) X
  | .call f es => fun σ S Q X => wpEs es σ S (fun ws S1 => G f ws S1 Q X) X
  | .isa a t => fun σ S Q X => wpE a σ S (fun x S1 => match isaW x t S1 with
    | some b => Q (.bl b) S1
    | none => False) X
  | .mx a b => fun σ S Q X => wpE a σ S (fun x S1 => wpE b σ S1 (fun y S2 => match x, y with
    | .int i, .int j => Q (.int (max i j)) S2
    | _, _ => False) X) X
  | .mn a b => fun σ S Q X => wpE a σ S (fun x S1 => wpE b σ S1 (fun y S2 => match x, y with
    | .int i, .int j => Q (.int (min i j)) S2
    | _, _ => False) X) X
  | .len a => fun σ S Q X => wpE a σ S (fun x S1 => match lenW x S1 with
    | some n => Q (.int n) S1
    | none => False) X
  | .mat t => fun σ S Q X => wpT t σ S (fun ws S1 => ∀ p, S1 p = none → Q (.ref p) (put S1 p (.lst ws))) X
  | .tupl l => fun σ S Q X => wpL l σ S (fun ws _ _ S1 => Q (.tup ws) S1) X
  | .sum l => fun σ S Q X => wpL l σ S (fun ws k _ S1 => k ≠ .tu ∧ match intsOf ws with
    | some ns => Q (.int ns.sum) S1
    | none => False) X
  | .any l => fun σ S Q X => wpL l σ S (fun ws k _ S1 => k ≠ .tu ∧ match blsOf ws with
    | some bs => Q (.bl (bs.any id)) S1
    | none => False) X
  | .all l => fun σ S Q X => wpL l σ S (fun ws k _ S1 => k ≠ .tu ∧ match blsOf ws with
    | some bs => Q (.bl (bs.all id)) S1
    | none => False) X
  | .max1 l => fun σ S Q X => wpL l σ S (fun ws k _ S1 => k ≠ .tu ∧ match intsOf ws with
    | some ns => ns ≠ [] ∧ ∀ m, m ∈ ns → (∀ y ∈ ns, y ≤ m) → Q (.int m) S1
    | none => False) X
  | .min1 l => fun σ S Q X => wpL l σ S (fun ws k _ S1 => k ≠ .tu ∧ match intsOf ws with
    | some ns => ns ≠ [] ∧ ∀ m, m ∈ ns → (∀ y ∈ ns, m ≤ y) → Q (.int m) S1
    | none => False) X
  | .idl l i => fun σ S Q X => wpL l σ S (fun ws _ st S1 => wpE i σ S1 (fun y S2 => st S2 ∧ match y with
    | .int k => (match atI ws k with
      | some w => Q w S2
      | none => False)
    | _ => False) X) X
  | .eql k a b => fun σ S Q X => wpL a σ S (fun xs k1 st S1 => wpL b σ S1 (fun ys k2 _ S2 => k1 ≠ .tu ∧ k2 ≠ .tu ∧ st S2 ∧ W.eqsOk xs ∧ W.eqsOk ys ∧ Q (.bl (W.eqvs xs ys == k)) S2) X) X
  | .app o e => fun σ S Q X => wpE o σ S (fun x S1 => isLst x S1 ∧ wpE e σ S1 (fun y S2 => match x with
    | .ref a => (match S2 a with
      | some (.lst ws) => ws.length < sizeLine ∧ Q .non (put S2 a (.lst (ws ++ [y])))
      | _ => False)
    | _ => False) X) X
  | .ext o l => fun σ S Q X => wpE o σ S (fun x S1 => isLst x S1 ∧ wpL l σ S1 (fun ys k _ S2 => k = .ls ∧ match x with
    | .ref a => (match S2 a with
      | some (.lst ws) => ws.length + ys.length ≤ sizeLine ∧ Q .non (put S2 a (.lst (ws ++ ys)))
      | _ => False)
    | _ => False) X) X
  | .pop0 o => fun σ S Q X => wpE o σ S (fun x S1 => isLst x S1 ∧ match x with
    | .ref a => (match S1 a with
      | some (.lst ws) => (match ws[ws.length - 1]? with
        | some w => Q w (put S1 a (.lst ws.dropLast))
        | none => False)
      | _ => False)
    | _ => False) X
  | .pop1 o i => fun σ S Q X => wpE o σ S (fun x S1 => isLst x S1 ∧ wpE i σ S1 (fun y S2 => match x, y with
    | .ref a, .int j => (match S2 a with
      | some (.lst ws) => -(2 ^ 63) ≤ j ∧ j < 2 ^ 63 ∧ (match ixN ws.length j with
        | some k => (match ws[k]? with
          | some w => Q w (put S2 a (.lst (ws.eraseIdx k)))
          | none => False)
        | none => False)
      | _ => False)
    | _, _ => False) X) X
  | .fld c o f => fun σ S Q X => wpE o σ S (fun x S1 => fldW x (G.cl c) f S1 fun w => Q w S1) X
  | .meth f c m o es => fun σ S Q X => wpE o σ S (fun x S1 => isIns x (G.cl c) m S1 ∧ wpEs es σ S1 (fun ws S2 => G f (x :: ws) S2 Q X) X) X
  | .make f c es => fun σ S Q X => wpEs es σ S (fun ws S1 => ∀ p, S1 p = none → G f (.ref p :: ws) (put S1 p (.ins (G.cl c) [])) (fun w S2 => w = .non ∧ Q (.ref p) S2) X) X
  | .glb _ k => fun _ S Q _ => Q (kW k) S
  | .isx o c => fun σ S Q X => wpE o σ S (fun x S1 => match G.hx with
    | some (a, n) => x = .ref a ∧ Q (.bl (subXo n c)) S1
    | none => False) X
  | .isxT o cs => fun σ S Q X => wpE o σ S (fun x S1 => match G.hx with
    | some (a, n) => x = .ref a ∧ Q (.bl (cs.any fun c => subX n c)) S1
    | none => False) X
  | .isC o c => fun σ S Q X => wpE o σ S (fun x S1 => insC x (G.cl c) S1 ∧ Q (.bl true) S1) X
  | .join s l => fun σ S Q X => wpE s σ S (fun x S1 => (∃ z, x = .str z) ∧ wpL l σ S1 (fun ws _ _ S2 => joinW x ws fun w => Q w S2) X) X
  | .eqE a b => fun σ S Q X => wpE a σ S (fun x S1 => wpE b σ S1 (fun y S2 => eqEW x y fun z => Q (.bl z) S2) X) X
  | .revT a => fun σ S Q X => wpE a σ S (fun x S1 => match x with
    | .tup ws => Q (.tup ws.reverse) S1
    | _ => False) X
  | .joinT s e => fun σ S Q X => wpE s σ S (fun x S1 => (∃ z, x = .str z) ∧ wpE e σ S1 (fun y S2 => joinTW x y fun w => Q w S2) X) X
  | .strI a => fun σ S Q X => wpE a σ S (fun x S1 => strW x fun w => Q w S1) X
  | .intE a => fun σ S Q X => wpE a σ S (fun x S1 => intW x fun w => Q w S1) X
  | .absI a => fun σ S Q X => wpE a σ S (fun x S1 => absW x fun w => Q w S1) X
  | .ins o i e => fun σ S Q X => wpE o σ S (fun x S1 => isLst x S1 ∧ wpE i σ S1 (fun y S2 => wpE e σ S2 (fun z S3 => lstW x S3 fun a ws => match y with
    | .int k => ws.length < sizeLine ∧ 0 ≤ k ∧ k < 2 ^ 63 ∧ Q .non (put S3 a (.lst (ws.take k.toNat ++ [z] ++ ws.drop k.toNat)))
    | _ => False) X) X) X
  | .rem o e => fun σ S Q X => wpE o σ S (fun x S1 => isLst x S1 ∧ wpE e σ S1 (fun y S2 => remW x y S2 fun S3 => Q .non S3) X) X
  | .ixo o e => fun σ S Q X => wpE o σ S (fun x S1 => isLst x S1 ∧ wpE e σ S1 (fun y S2 => ixoW x y S2 fun w => Q w S2) X) X
  | .revm o => fun σ S Q X => wpE o σ S (fun x S1 => lstW x S1 fun a ws => Q .non (put S1 a (.lst ws.reverse))) X
  | .clr o => fun σ S Q X => wpE o σ S (fun x S1 => lstW x S1 fun a _ => Q .non (put S1 a (.lst []))) X
  | .dnew t => fun _ S Q _ => ∀ p, S p = none → Q (.ref p) (put S p (if t = true then .dt false [] else .dk false []))
  | .dget d k e => fun σ S Q X => wpE d σ S (fun x S1 => (∃ a, x = .ref a ∧ ((∃ f kvs, S1 a = some (.dk f kvs)) ∨ ∃ f kvs, S1 a = some (.dt f kvs))) ∧ wpE k σ S1 (fun y S2 => wpE e σ S2 (fun z S3 => dgetW x y z S3 fun w => Q w S3) X) X) X
  | .dpop d k => fun σ S Q X => wpE d σ S (fun x S1 => (∃ a kvs, x = .ref a ∧ S1 a = some (.dk false kvs)) ∧ wpE k σ S1 (fun y S2 => dkW x S2 fun a kvs => match keyW y with
    | some k => (match valD kvs k with
      | some w => Q w (put S2 a (.dk false (dropD kvs k)))
      | none => False)
    | none => False) X) X
  | .dnewN => fun _ S Q _ => ∀ p, S p = none → Q (.ref p) (put S p (.dn []))
  | .dem k a => fun σ S Q X => wpE a σ S (fun x S1 => demW x S1 fun z => Q (.bl (z == k)) S1) X
  | .deq k a b => fun σ S Q X => wpE a σ S (fun x S1 => wpE b σ S1 (fun y S2 => deqW x y S2 fun z => Q (.bl (z == k)) S2) X) X
  | .ddsp ks es => fun σ S Q X => wpEs es σ S (fun ws S1 => ks.length = ws.length ∧ ∀ p, S1 p = none → Q (.ref p) (put S1 p (.dk false (mkD ks ws)))) X
  | .setd d k e => fun σ S Q X => wpE d σ S (fun x S1 => ((∃ a kvs, x = .ref a ∧ S1 a = some (.dk false kvs)) ∨ ∃ a kvs, x = .ref a ∧ S1 a = some (.dt false kvs)) ∧ wpE k σ S1 (fun y S2 => wpE e σ S2 (fun z S3 => setdW x y z S3 Q) X) X) X
def wpEs : IEs → Envr → Sto → (List W → Sto → Prop) → XQ → Prop
  | .nil => fun _ S Q _ => Q [] S
  | .cons e es => fun σ S Q X => wpE e σ S (fun w S1 => wpEs es σ S1 (fun ws S2 => Q (w :: ws) S2) X) X
def wpO : IO → Envr → Sto → (Option Int → Sto → Prop) → XQ → Prop
  | .none => fun _ S Q _ => Q none S
  | .some e => fun σ S Q X => wpE e σ S (fun w S1 => match w with
    | .int i => Q (some i) S1
    | _ => False) X
def wpT : IT → Envr → Sto → (List W → Sto → Prop) → XQ → Prop
  | .dsp es => fun σ S Q X => wpEs es σ S (fun ws S1 => ws.length ≤ sizeLine ∧ Q ws S1) X
  | .cat a b => fun σ S Q X => wpL a σ S (fun xs k1 st S1 => wpL b σ S1 (fun ys k2 _ S2 => k1 ≠ .tu ∧ k2 ≠ .tu ∧ st S2 ∧ xs.length + ys.length ≤ sizeLine ∧ Q (xs ++ ys) S2) X) X
  | .slc a lo hi => fun σ S Q X => wpL a σ S (fun xs k st S1 => wpO lo σ S1 (fun l S2 => wpO hi σ S2 (fun h S3 => k ≠ .tu ∧ st S3 ∧ Q (cutW xs l h) S3) X) X) X
  | .rev a => fun σ S Q X => wpL a σ S (fun xs k _ S1 => k ≠ .tu ∧ Q xs.reverse S1) X
  | .lst a => fun σ S Q X => wpL a σ S (fun xs _ _ S1 => Q xs S1) X
  | .srt a => fun σ S Q X => wpL a σ S (fun xs k _ S1 => k ≠ .tu ∧ srtW xs fun ys => Q ys S1) X
  | .sset a => fun σ S Q X => wpL a σ S (fun xs k _ S1 => k ≠ .tu ∧ sSetW xs fun ys => Q ys S1) X
  | .rep a n => fun σ S Q X => wpL a σ S (fun xs k st S1 => wpE n σ S1 (fun y S2 => match y with
    | .int i => k = .ls ∧ st S2 ∧ 0 ≤ i ∧ i ≤ 1000000 ∧ xs.length * i.toNat ≤ sizeLine ∧ Q (List.replicate i.toNat xs).flatten S2
    | _ => False) X) X
  | .comp e g it own => fun σ S Q X => wpI it σ S (fun xs st S1 => ∃ I : Nat → List W → Sto → Prop, (∃ S2, Sub S2 S1 ∧ I 0 [] S2) ∧
      (∀ k acc S3 x, xs[k]? = some x → I k acc S3 → st S3 ∧ wpG g x (wipeW σ own) S3 (fun σ' S4 => wpE e σ' S4 (fun y S5 => acc.length < sizeLine ∧ I (k + 1) (acc ++ [y]) S5) noX) noX) ∧
      ∀ acc S3, I xs.length acc S3 → st S3 ∧ Q acc S3) X
  | .compif e c g it own => fun σ S Q X => wpI it σ S (fun xs st S1 => ∃ I : Nat → List W → Sto → Prop, (∃ S2, Sub S2 S1 ∧ I 0 [] S2) ∧
      (∀ k acc S3 x, xs[k]? = some x → I k acc S3 → st S3 ∧ wpG g x (wipeW σ own) S3 (fun σ' S4 => wpE c σ' S4 (fun z S5 => asBl z fun b =>
        if b = true then wpE e σ' S5 (fun y S6 => acc.length < sizeLine ∧ I (k + 1) (acc ++ [y]) S6) noX else I (k + 1) acc S5) noX) noX) ∧
      ∀ acc S3, I xs.length acc S3 → st S3 ∧ Q acc S3) X
  | .srtd d => fun σ S Q X => wpE d σ S (fun x S1 => srtdW x S1 fun ws => Q ws S1) X
  | .srtD a => fun σ S Q X => wpL a σ S (fun xs k _ S1 => k ≠ .tu ∧ srtDW xs S1 fun ys => Q ys S1) X
  | .lck t => fun σ S Q _ => ∃ a kvs, S a = some (.dk false kvs) ∧ wpT t σ (put S a (.dk true kvs)) (fun ws S1 => Q ws (put S1 a (.dk false kvs))) noX
  | .chr e => fun σ S Q X => wpE e σ S (fun x S1 => chrW x fun ws => Q ws S1) X
  | .rga a b => fun σ S Q X => wpE a σ S (fun x S1 => wpE b σ S1 (fun y S2 => rgaW x y fun ws => Q ws S2) X) X
  | .spl e s => fun σ S Q X => wpE e σ S (fun x S1 => (∃ z, x = .str z) ∧ wpE s σ S1 (fun y S2 => splW x y fun ws => Q ws S2) X) X
def wpL : IL → Envr → Sto → LQ → XQ → Prop
  | .t t => fun σ S Q X => wpT t σ S (fun ws S1 => Q ws .ls (fun _ => True) S1) X
  | .tk t => fun σ S Q _ => ∃ a kvs, S a = some (.dk false kvs) ∧ wpT t σ (put S a (.dk true kvs)) (fun ws S1 => Q ws .ls (fun _ => True) (put S1 a (.dk false kvs))) noX
  | .of e => fun σ S Q X => wpE e σ S (fun x S1 => match x with
    | .tup ws => Q ws .tu (fun _ => True) S1
    | .rol ws => Q ws .ro (fun _ => True) S1
    | .ref a => (match S1 a with
      | some (.lst ws) => Q ws .ls (fun S2 => S2 a = some (.lst ws)) S1
      | _ => False)
    | _ => False) X
def wpG : IG → W → Envr → Sto → (Envr → Sto → Prop) → XQ → Prop
  | .nm i => fun w σ S Q _ => Q (σ.set i (some w)) S
  | .tup gs => fun w σ S Q X => match w with
    | .tup ws => ws.length = gs.len ∧ wpGs gs ws σ S Q X
    | _ => False
  | .unl gs => fun w σ S Q X => match w with
    | .ref a => (match S a with
      | some (.lst ws) => ws.length = gs.len ∧ wpGs gs ws σ S Q X
      | _ => False)
    | _ => False
  | .sub o i => fun w σ S Q X => wpE o σ S (fun x S1 => wpE i σ S1 (fun y S2 => setW x y w S2 (Q σ)) X) X
  | .slc o lo hi => fun w σ S Q X => wpE o σ S (fun x S1 => wpE lo σ S1 (fun i S2 => wpE hi σ S2 (fun j S3 => slsW x i j w S3 (Q σ)) X) X) X
  | .slo o lo hi => fun w σ S Q X => wpE o σ S (fun x S1 => wpO lo σ S1 (fun i S2 => wpO hi σ S2 (fun j S3 => sloW x i j w S3 (Q σ)) X) X) X
def wpGs : IGs → List W → Envr → Sto → (Envr → Sto → Prop) → XQ → Prop
  | .nil => fun ws σ S Q _ => match ws with
    | [] => Q σ S
    | _ => False
  | .cons g gs => fun ws σ S Q X => match ws with
    | w :: r => wpG g w σ S (fun σ' S' => wpGs gs r σ' S' Q X) X
    | _ => False
def wpI : II → Envr → Sto → (List W → (Sto → Prop) → Sto → Prop) → XQ → Prop
  | .lst l => fun σ S Q X => wpL l σ S (fun ws _ st S1 => Q ws st S1) X
  | .rng e => fun σ S Q X => wpE e σ S (fun x S1 => match x with
    | .int n => rngOk n ∧ Q (rngW 0 n.toNat) (fun _ => True) S1
    | _ => False) X
  | .rng2 a b => fun σ S Q X => wpE a σ S (fun x S1 => wpE b σ S1 (fun y S2 => match x, y with
    | .int i, .int j => rngOk2 i ∧ rngOk2 j ∧ Q (rngW i (j - i).toNat) (fun _ => True) S2
    | _, _ => False) X) X
  | .zip a b => fun σ S Q X => wpL a σ S (fun xs k1 s1 S1 => wpL b σ S1 (fun ys k2 s2 S2 => ((k1 ≠ .tu ∧ k2 ≠ .tu) ∨ (k1 = .tu ∧ k2 = .tu)) ∧ s1 S2 ∧ Q (zipW xs ys) (fun S => s1 S ∧ s2 S) S2) X) X
  | .enm a => fun σ S Q X => wpL a σ S (fun xs k st S1 => k ≠ .tu ∧ Q (enmW xs) st S1) X
  | .rngd a b c => fun σ S Q X => wpE a σ S (fun x S1 => wpE b σ S1 (fun y S2 => wpE c σ S2 (fun z S3 => z = .int (-1) ∧ match x, y with
    | .int i, .int j => rngOk i ∧ rngOk j ∧ Q (rngdW i (i - j).toNat) (fun _ => True) S3
    | _, _ => False) X) X) X
  | .keys e => fun σ S Q X => wpE e σ S (fun x S1 => match x with
    | .ref a => (match S1 a with
      | some (.dk true kvs) => Q (kvs.map fun kv => kW kv.1) (fun _ => True) S1
      | _ => False)
    | _ => False) X
  | .chr e => fun σ S Q X => wpE e σ S (fun x S1 => match x with
    | .str t => Q (sgsW t) (fun _ => True) S1
    | _ => False) X
  | .zipg _ _ xs ys => fun _ S Q _ => Q (zipW (xs.map kW) (ys.map kW)) (fun _ => True) S
end
end
mutual
def wpS (G : Gs) : IS → MEnds → Envr → Sto → Prop
  | .set i e => fun D σ S => wpE G e σ S (fun w S1 => D.nx (σ.set i (some w)) S1) (D.ex σ)
  | .asg g e => fun D σ S => wpE G e σ S (fun w S1 => wpG G g w σ S1 D.nx noX) (D.ex σ)
  | .par i j a b => fun D σ S => wpE G a σ S (fun x S1 => wpE G b σ S1 (fun y S2 => D.nx ((σ.set i (some x)).set j (some y)) S2) (D.ex σ)) (D.ex σ)
  | .aug i op e => fun D σ S => match getv σ i with
    | some x => wpE G e σ S (fun y S1 => augW op x y fun z => D.nx (σ.set i (some z)) S1) (D.ex σ)
    | none => False
  | .augx o i op e => fun D σ S => wpE G o σ S (fun x S1 => wpE G i σ S1 (fun y S2 => getxW x y S2 fun v => wpE G e σ S2 (fun z S3 => augW op v z fun u => setW x y u S3 (D.nx σ)) (D.ex σ)) (D.ex σ)) (D.ex σ)
  | .exp e => fun D σ S => wpE G e σ S (fun _ S1 => D.nx σ S1) (D.ex σ)
  | .ret e => fun D σ S => wpE G e σ S D.rt (D.ex σ)
  | .retN => fun D _ S => D.rt .non S
  | .pas => fun D σ S => D.nx σ S
  | .brk => fun D σ S => D.bk σ S
  | .cnt => fun D σ S => D.ct σ S
  | .iff c a b => fun D σ S => wpE G c σ S (fun x S1 => asBl x fun k => if k = true then wpSs G a D σ S1 else wpSs G b D σ S1) (D.ex σ)
  | .whl c b => fun D σ S => ∃ I : Nat → Envr → Sto → Prop, (∃ n S2, Sub S2 S ∧ I n σ S2) ∧ ∀ n σ S, I n σ S →
      wpE G c σ S (fun x S1 => asBl x fun k => if k = true then wpSs G b { D with nx := fun σ' S' => ∃ m, m < n ∧ I m σ' S', ct := fun σ' S' => ∃ m, m < n ∧ I m σ' S', bk := D.nx } σ S1 else D.nx σ S1) (D.ex σ)
  | .for g it b => fun D σ S => wpI G it σ S (fun xs st S1 => ∃ I : Nat → Envr → Sto → Prop, (∃ S2, Sub S2 S1 ∧ I 0 σ S2) ∧
      (∀ k x σ' S', xs[k]? = some x → I k σ' S' → st S' ∧ wpG G g x σ' S' (fun σ2 S2 => wpSs G b { D with nx := I (k + 1), ct := I (k + 1), bk := D.nx } σ2 S2) noX) ∧
      ∀ σ' S', I xs.length σ' S' → st S' ∧ D.nx σ' S') (D.ex σ)
  | .sfl c o f e => fun D σ S => wpE G e σ S (fun y S1 => wpE G o σ S1 (fun x S2 => setF x (G.cl c) f y S2 (D.nx σ)) (D.ex σ)) (D.ex σ)
  | .rse c => fun D σ S => c ∈ G.ex ∧ D.ex σ (G.cl c) S
  | .tryO b c s => fun D σ S => wpSs G b { D with ex := fun σ' C S' => ∃ n, n ∈ G.ex ∧ C = G.cl n ∧ ((subX n c = true ∧ ∀ a, S' a = none → wpSs { G with hx := some (a, n) } s { D with ex := fun _ _ _ => False } σ' S') ∨ (subX n c = false ∧ D.ex σ' C S')) } σ S
  | .tryA b c i s => fun D σ S => wpSs G b { D with ex := fun σ' C S' => ∃ n, n ∈ G.ex ∧ C = G.cl n ∧ ((subX n c = true ∧ ∀ a, S' a = none → wpSs { G with hx := some (a, n) } s { nx := fun σ2 S2 => D.nx (σ2.set i none) S2, rt := D.rt, bk := fun σ2 S2 => D.bk (σ2.set i none) S2, ct := fun σ2 S2 => D.ct (σ2.set i none) S2, ex := fun _ _ _ => False } (σ'.set i (some (.ref a))) S') ∨ (subX n c = false ∧ D.ex σ' C S')) } σ S
  | .ford g i b => fun D σ S => match getv σ i with
    | some (.ref a) => (match S a with
      | some U => (match keysOf U with
        | some xs => ∃ I : Nat → Envr → Sto → Prop, (∃ S2, Sub S2 (del S a) ∧ I 0 σ S2) ∧
          (∀ k x σ' S', xs[k]? = some x → I k σ' S' → wpG G g x σ' S' (fun σ2 S2 => wpSs G b { nx := I (k + 1), ct := I (k + 1), bk := fun σ3 S3 => S3 a = none → D.nx σ3 (put S3 a U), rt := fun w S3 => S3 a = none → D.rt w (put S3 a U), ex := fun _ _ _ => False } σ2 S2) noX) ∧
          ∀ σ' S', I xs.length σ' S' → S' a = none → D.nx σ' (put S' a U)
        | none => False)
      | none => False)
    | _ => False
  | .lck s => fun D σ S => ∃ a kvs, S a = some (.dk false kvs) ∧ wpS G s { nx := fun σ' S' => D.nx σ' (put S' a (.dk false kvs)), rt := fun w S' => D.rt w (put S' a (.dk false kvs)), bk := fun σ' S' => D.bk σ' (put S' a (.dk false kvs)), ct := fun σ' S' => D.ct σ' (put S' a (.dk false kvs)), ex := fun _ _ _ => False } σ (put S a (.dk true kvs))
def wpSs (G : Gs) : ISs → MEnds → Envr → Sto → Prop
  | .nil => fun D σ S => D.nx σ S
  | .cons s r => fun D σ S => wpS G s { D with nx := wpSs G r D } σ S
end
section
variable (G : Gs)
def wpF (n : Nat) (b : ISs) (ws : List W) (S : Sto) (Q : WQ) (X : XQ) : Prop :=
  wpSs G b { nx := fun _ S' => ∃ S2, Sub S2 S' ∧ Q .non S2, rt := fun w S' => ∃ S2, Sub S2 S' ∧ Q w S2, bk := fun _ _ => False, ct := fun _ _ => False, ex := fun _ C S' => ∃ S2, Sub S2 S' ∧ X C S2 } (ws.map some ++ List.replicate (n - ws.length) none) S
end
structure Ctx where
  N : List Str
  fns : List (Nat × Str)
  mth : List (Nat × Nat × Str) := []
  mks : List (Nat × Nat × Str) := []
  fld : List (Nat × Str) := []
  exc : List (Nat × Str) := []
  gls : List (Str × Key) := []
  glt : List (Str × List Key) := []
  icl : List (Nat × Str) := []
  hot : Bool := false
def visB (sc : Scope) (x : Str) : Bool := match sc.names.lookup x with
  | some .local => true
  | some .cell => true
  | some .free => true
  | _ => false
def glB (sc : Scope) (x : Str) : Bool := match sc.names.lookup x with
  | some .globalImplicit => true
  | _ => false
def stoB (top : Bool) (sc : Scope) (x : Str) : Bool := match sc.names.lookup x with
  | some .local => true
  | some .cell => top
  | _ => false
def plainNm (x : Str) : Bool := !(x == ("__debug__" : Str)) && !(x == ("__classdict__" : Str))
def nmB (C : Ctx) (sc : Scope) (i : Nat) (x : Str) : Bool := decide (C.N[i]? = some x) && visB sc x && plainNm x
def opB : BOp → Operator → Bool
  | .add, .Add => true
  | .sub, .Sub => true
  | .mul, .Mult => true
  | .fdiv, .FloorDiv => true
  | .mod, .Mod => true
  | .pow, .Pow => true
  | _, _ => false
def copB : COp → CmpOp → Bool
  | .lt, .Lt => true
  | .le, .LtE => true
  | .gt, .Gt => true
  | .ge, .GtE => true
  | .eq, .Eq => true
  | .ne, .NotEq => true
  | _, _ => false
def notStar : Expr → Bool
  | .Starred _ _ => false
  | _ => true
def notSlice : Expr → Bool
  | .Slice _ _ _ _ => false
  | _ => true
def notSet : Expr → Bool
  | .Set _ _ _ => false
  | _ => true
def noMark (op : CmpOp) (e : Expr) : Bool := !behindInMarks op e
def foldC : Expr → Option Int
  | .Constant (.int i) _ _ => some i
  | .UnaryOp .USub a _ => (foldC a).map fun i => -i
  | .BinOp a op b _ => match foldC a, foldC b with
    | some i, some j => (match op with
      | .Add => some (i + j)
      | .Sub => some (i - j)
      | .Mult => if i.natAbs < 2 ^ 64 then some (i * j) else none
      | .Pow => if 0 ≤ j ∧ j ≤ 1000 ∧ i.natAbs < 2 ^ 64 then some (i ^ j.toNat) else none
      | _ => none)
    | _, _ => none
  | _ => none
def cstB (w : W) (e : Expr) : Bool := match e, w with
  | .Constant .none _ _, .non => true
  | .Constant (.bool b) _ _, .bl c => b == c
  | .Constant (.str x) _ _, .str y => decide (x = y)
  | _, .int i => decide (foldC e = some i)
  | _, _ => false
def isN1 : Expr → Bool
  | .UnaryOp .USub (.Constant (.int i) _ _) _ => decide (i = 1)
  | _ => false
def callNm (sc : Scope) (x : Str) : Expr → Option (List Expr)
  | .Call (.Name y _) args [] _ => if decide (y = x) && glB sc y && plainNm y then some args else none
  | _ => none
def baseOk : Expr → Bool
  | .Call (.Name _ _) [] [] _ => false
  | _ => true
def callMt (m : Str) : Expr → Option (Expr × List Expr)
  | .Call (.Attribute o n ap) args [] pos => if decide (n = m) && baseOk o && (ap.endLine == pos.line) then some (o, args) else none
  | _ => none
def isaT (t : String) (y : Str) : Bool := (t == "int" && decide (y = "int")) || (t == "bool" && decide (y = "bool")) || (t == "str" && decide (y = "str")) || (t == "tuple" && decide (y = "tuple")) || (t == "list" && decide (y = "list"))
def gltB (C : Ctx) (sc : Scope) (x : Str) (ks : List Key) : Bool := C.glt.any (fun p => decide (p = (x, ks))) && glB sc x && plainNm x
def keysB : List Key → List (Option Expr) → Bool
  | [], [] => true
  | .inl i :: r, some (.Constant (.int j) _ _) :: t => decide (i = j) && keysB r t
  | .inr x :: r, some (.Constant (.str y) _ _) :: t => decide (x = y) && keysB r t
  | _, _ => false
def isxTB (C : Ctx) (sc : Scope) : List Nat → List Expr → Bool
  | [], [] => true
  | n :: ns, .Name y _ :: r => C.exc.contains (n, y) && glB sc y && plainNm y && isxTB C sc ns r
  | _, _ => false
def ownCell (C : Ctx) (g : IG) (scope : Scope) (tg : Expr) : Bool := match g, tg with
  | .nm i, .Name x _ => decide (C.N[i]? = some x) && (scope.names.lookup x == some .cell)
  | _, _ => false
mutual
def chkE (C : Ctx) : IE → Scope → Bool → Expr → Bool
  | .var i => fun sc _ e => match e with
    | .Name x _ => nmB C sc i x
    | _ => false
  | .cst w => fun _ _ e => cstB w e
  | .bin op a b => fun sc tp e => match e with
    | .BinOp l o r _ => opB op o && chkE C a sc tp l && chkE C b sc tp r
    | _ => false
  | .neg a => fun sc tp e => match e with
    | .UnaryOp .USub x _ => chkE C a sc tp x
    | _ => false
  | .cmp op a b => fun sc tp e => match e with
    | .Compare l [o] [r] _ => copB op o && chkE C a sc tp l && chkE C b sc tp r
    | _ => false
  | .chn op op' a b c => fun sc tp e => match e with
    | .Compare l [o, o'] [m, r] _ => copB op o && copB op' o' && chkE C a sc tp l && chkE C b sc tp m && chkE C c sc tp r
    | _ => false
  | .isN k a => fun sc tp e => match e with
    | .Compare l [o] [.Constant .none _ _] _ => (match o with
      | .Is => k
      | .IsNot => !k
      | _ => false) && chkE C a sc tp l
    | _ => false
  | .isB k a b => fun sc tp e => match e with
    | .Compare l [o] [.Constant (.bool c) _ _] _ => (match o with
      | .Is => k
      | .IsNot => !k
      | _ => false) && (b == c) && chkE C a sc tp l
    | _ => false
  | .inn k a b => fun sc tp e => match e with
    | .Compare l [o] [r] _ => (match o with
      | .In => k
      | .NotIn => !k
      | _ => false) && noMark o r && chkE C a sc tp l && chkE C b sc tp r
    | _ => false
  | .and a b => fun sc tp e => match e with
    | .BoolOp .And (x :: y :: rest) pos => chkE C a sc tp x && (match rest with
      | [] => chkE C b sc tp y
      | _ => chkE C b sc tp (.BoolOp .And (y :: rest) pos))
    | _ => false
  | .or a b => fun sc tp e => match e with
    | .BoolOp .Or (x :: y :: rest) pos => chkE C a sc tp x && (match rest with
      | [] => chkE C b sc tp y
      | _ => chkE C b sc tp (.BoolOp .Or (y :: rest) pos))
    | _ => false
  | .not a => fun sc tp e => match e with
    | .UnaryOp .Not x _ => chkE C a sc tp x
    | _ => false
  | .ite c a b => fun sc tp e => match e with
    | .IfExp t x y _ => chkE C c sc tp t && chkE C a sc tp x && chkE C b sc tp y
    | _ => false
  | .tup es => fun sc tp e => match e with
    | .Tuple xs _ _ => chkEs C es sc tp xs
    | _ => false
  | .idx a i => fun sc tp e => match e with
    | .Subscript o s _ => notSlice s && chkE C a sc tp o && chkE C i sc tp s
    | _ => false
  | .slc a lo hi => fun sc tp e => match e with
    | .Subscript o (.Slice l h none _) _ => chkE C a sc tp o && chkO C lo sc tp l && chkO C hi sc tp h
    | _ => false
  | .call f es => fun sc tp e => match C.fns.lookup f with
    | some x => (match callNm sc x e with
      | some args => chkEs C es sc tp args && !C.hot
      | none => false)
    | none => false
  | .isa a t => fun sc tp e => match callNm sc "isinstance" e with
    | some [x, .Name y _] => glB sc y && plainNm y && isaT t y && notStar x && chkE C a sc tp x
    | _ => false
  | .mx a b => fun sc tp e => match callNm sc "max" e with
    | some [x, y] => chkE C a sc tp x && chkE C b sc tp y && notStar x && notStar y && !C.hot
    | _ => false
  | .mn a b => fun sc tp e => match callNm sc "min" e with
    | some [x, y] => chkE C a sc tp x && chkE C b sc tp y && notStar x && notStar y && !C.hot
    | _ => false
  | .len a => fun sc tp e => match callNm sc "len" e with
    | some [x] => chkE C a sc tp x && notStar x
    | _ => false
  | .mat t => fun sc tp e => chkT C t sc tp e
  | .tupl l => fun sc tp e => match callNm sc "tuple" e with
    | some [x] => chkL C l sc tp x && notStar x
    | _ => false
  | .sum l => fun sc tp e => match callNm sc "sum" e with
    | some [x] => chkL C l sc tp x && notStar x && !C.hot
    | _ => false
  | .any l => fun sc tp e => match callNm sc "any" e with
    | some [x] => chkL C l sc tp x && notStar x && !C.hot
    | _ => false
  | .all l => fun sc tp e => match callNm sc "all" e with
    | some [x] => chkL C l sc tp x && notStar x && !C.hot
    | _ => false
  | .max1 l => fun sc tp e => match callNm sc "max" e with
    | some [x] => chkL C l sc tp x && notStar x && !C.hot
    | _ => false
  | .min1 l => fun sc tp e => match callNm sc "min" e with
    | some [x] => chkL C l sc tp x && notStar x && !C.hot
    | _ => false
  | .idl l i => fun sc tp e => match e with
    | .Subscript o s _ => notSlice s && chkL C l sc tp o && chkE C i sc tp s
    | _ => false
  | .eql k a b => fun sc tp e => match e with
    | .Compare l [o] [r] _ => (match o with
      | .Eq => k
      | .NotEq => !k
      | _ => false) && chkL C a sc tp l && chkL C b sc tp r
    | _ => false
  | .app o x => fun sc tp e => match callMt "append" e with
    | some (r, [y]) => chkE C o sc tp r && chkE C x sc tp y && notStar y
    | _ => false
  | .ext o l => fun sc tp e => match callMt "extend" e with
    | some (r, [y]) => chkE C o sc tp r && chkL C l sc tp y && notStar y
    | _ => false
  | .pop0 o => fun sc tp e => match callMt "pop" e with
    | some (r, []) => chkE C o sc tp r
    | _ => false
  | .pop1 o i => fun sc tp e => match callMt "pop" e with
    | some (r, [y]) => chkE C o sc tp r && chkE C i sc tp y && notStar y
    | _ => false
  | .fld c o f => fun sc tp e => match e with
    | .Attribute r g _ => decide (g = f) && baseOk r && C.fld.contains (c, f) && chkE C o sc tp r
    | _ => false
  | .meth f c m o es => fun sc tp e => match e with
    | .Call (.Attribute r g ap) args [] pos => decide (g = m) && baseOk r && (ap.endLine == pos.line) && decide (args.length < 30) && C.mth.contains (f, c, m) && !C.hot && chkE C o sc tp r && chkEs C es sc tp args
    | _ => false
  | .make f c es => fun sc tp e => match e with
    | .Call (.Name y _) args [] _ => C.mks.contains (f, c, y) && !C.hot && glB sc y && plainNm y && chkEs C es sc tp args
    | _ => false
  | .glb x k => fun sc _ e => match e with
    | .Name y _ => decide (y = x) && (C.gls.any fun p => decide (p = (x, k))) && glB sc y && plainNm y
    | _ => false
  | .isx o c => fun sc tp e => match callNm sc "isinstance" e with
    | some [x, .Name y _] => (match c with
      | some n => C.exc.contains (n, y)
      | none => decide (y = "ValueError")) && glB sc y && plainNm y && notStar x && chkE C o sc tp x
    | _ => false
  | .isxT o cs => fun sc tp e => match callNm sc "isinstance" e with
    | some [x, .Tuple ys _ _] => isxTB C sc cs ys && notStar x && decide (ys.length < 30) && chkE C o sc tp x
    | _ => false
  | .isC o n => fun sc tp e => match callNm sc "isinstance" e with
    | some [x, .Name y _] => C.icl.contains (n, y) && glB sc y && plainNm y && notStar x && chkE C o sc tp x
    | _ => false
  | .join s l => fun sc tp e => match callMt "join" e with
    | some (r, [y]) => chkE C s sc tp r && chkL C l sc tp y && notStar y
    | _ => false
  | .eqE a b => fun sc tp e => match e with
    | .Compare l [.Eq] [r] _ => chkE C a sc tp l && chkE C b sc tp r
    | _ => false
  | .revT a => fun sc tp e => match e with
    | .Subscript o (.Slice none none (some x) _) _ => isN1 x && chkE C a sc tp o
    | _ => false
  | .joinT s a => fun sc tp e => match callMt "join" e with
    | some (r, [y]) => chkE C s sc tp r && chkE C a sc tp y && notStar y && !C.hot
    | _ => false
  | .strI a => fun sc tp e => match callNm sc "str" e with
    | some [x] => chkE C a sc tp x && notStar x
    | _ => false
  | .intE a => fun sc tp e => match callNm sc "int" e with
    | some [x] => chkE C a sc tp x && notStar x
    | _ => false
  | .absI a => fun sc tp e => match callNm sc "abs" e with
    | some [x] => chkE C a sc tp x && notStar x
    | _ => false
  | .ins o i x => fun sc tp e => match callMt "insert" e with
    | some (r, [y, z]) => chkE C o sc tp r && chkE C i sc tp y && notStar y && chkE C x sc tp z && notStar z
    | _ => false
  | .rem o x => fun sc tp e => match callMt "remove" e with
    | some (r, [y]) => chkE C o sc tp r && chkE C x sc tp y && notStar y
    | _ => false
  | .ixo o x => fun sc tp e => match callMt "index" e with
    | some (r, [y]) => chkE C o sc tp r && chkE C x sc tp y && notStar y
    | _ => false
  | .revm o => fun sc tp e => match callMt "reverse" e with
    | some (r, []) => chkE C o sc tp r
    | _ => false
  | .clr o => fun sc tp e => match callMt "clear" e with
    | some (r, []) => chkE C o sc tp r
    | _ => false
  | .dnew _ => fun _ _ e => match e with
    | .Dict [] [] _ => true
    | _ => false
  | .dnewN => fun _ _ e => match e with
    | .Dict [] [] _ => true
    | _ => false
  | .dem k a => fun sc tp e => match e with
    | .Compare l [o] [.Dict [] [] _] _ => (match o with
      | .Eq => k
      | .NotEq => !k
      | _ => false) && chkE C a sc tp l
    | _ => false
  | .dget d k x => fun sc tp e => match callMt "get" e with
    | some (r, [y, z]) => chkE C d sc tp r && chkE C k sc tp y && notStar y && chkE C x sc tp z && notStar z
    | _ => false
  | .deq k a b => fun sc tp e => match e with
    | .Compare l [o] [r] _ => (match o with
      | .Eq => k
      | .NotEq => !k
      | _ => false) && chkE C a sc tp l && chkE C b sc tp r
    | _ => false
  | .ddsp ks es => fun sc tp e => match e with
    | .Dict (k0 :: kr) vs _ => keysB ks (k0 :: kr) && decide (kr.length < 15) && decide (kr.length + 1 = vs.length) && chkEs C es sc tp vs
    | _ => false
  | .setd d k x => fun sc tp e => match callMt "setdefault" e with
    | some (r, [y, z]) => chkE C d sc tp r && chkE C k sc tp y && notStar y && chkE C x sc tp z && notStar z
    | _ => false
  | .dpop d k => fun sc tp e => match callMt "pop" e with
    | some (r, [y]) => chkE C d sc tp r && chkE C k sc tp y && notStar y
    | _ => false
def chkEs (C : Ctx) : IEs → Scope → Bool → List Expr → Bool
  | .nil => fun _ _ es => match es with
    | [] => true
    | _ => false
  | .cons a r => fun sc tp es => match es with
    | e :: t => notStar e && chkE C a sc tp e && chkEs C r sc tp t
    | _ => false
def chkO (C : Ctx) : IO → Scope → Bool → Option Expr → Bool
  | .none => fun _ _ e => match e with
    | none => true
    | _ => false
  | .some a => fun sc tp e => match e with
    | some x => chkE C a sc tp x
    | _ => false
def chkT (C : Ctx) : IT → Scope → Bool → Expr → Bool
  | .dsp es => fun sc tp e => match e with
    | .List xs _ => chkEs C es sc tp xs
    | _ => false
  | .cat a b => fun sc tp e => match e with
    | .BinOp l .Add r _ => chkL C a sc tp l && chkL C b sc tp r
    | _ => false
  | .slc a lo hi => fun sc tp e => match e with
    | .Subscript o (.Slice l h none _) _ => chkL C a sc tp o && chkO C lo sc tp l && chkO C hi sc tp h
    | _ => false
  | .rev a => fun sc tp e => match e with
    | .Subscript o (.Slice none none (some x) _) _ => isN1 x && chkL C a sc tp o
    | _ => false
  | .lst a => fun sc tp e => match callNm sc "list" e with
    | some [x] => chkL C a sc tp x && notStar x
    | _ => false
  | .chr a => fun sc tp e => match callNm sc "list" e with
    | some [x] => chkE C a sc tp x && notStar x && !C.hot
    | _ => false
  | .rga a b => fun sc tp e => match callNm sc "list" e with
    | some [z] => (match callNm sc "range" z with
      | some [x, y] => chkE C a sc tp x && chkE C b sc tp y && notStar x && notStar y && !C.hot
      | _ => false)
    | _ => false
  | .spl a s => fun sc tp e => match callMt "split" e with
    | some (r, [y]) => chkE C a sc tp r && chkE C s sc tp y && notStar y
    | _ => false
  | .srtd d => fun sc tp e => match callNm sc "sorted" e with
    | some [x] => chkE C d sc tp x && notStar x && !C.hot
    | _ => false
  | .srtD a => fun sc tp e => match callNm sc "sorted" e with
    | some [x] => chkL C a sc tp x && notStar x && !C.hot
    | _ => false
  | .lck t => fun sc tp e => chkT C t sc tp e && (match e with
    | .Call _ _ _ _ => true
    | _ => false)
  | .srt a => fun sc tp e => match callNm sc "sorted" e with
    | some [x] => chkL C a sc tp x && notStar x && !C.hot
    | _ => false
  | .sset a => fun sc tp e => match callNm sc "sorted" e with
    | some [x] => (match callNm sc "set" x with
      | some [y] => chkL C a sc tp y && notStar y && !C.hot
      | _ => false)
    | _ => false
  | .rep a n => fun sc tp e => match e with
    | .BinOp l .Mult r _ => chkL C a sc tp l && chkE C n sc tp r
    | _ => false
  | .comp a g it own => fun sc tp e => match e with
    | .ListComp x [⟨tg, iter, [], 0⟩] scope _ => chkI C it sc tp tg iter && notSet iter && blkC C.N sc scope (own.map fun i => (C.N.getD i "", i)) && (gSlots g).all (fun i => own.contains i) &&
        (chkG C g (relS scope sc) false tg || ownCell C g scope tg) && chkE C a (relS scope sc) false x && !C.hot
    | _ => false
  | .compif a c g it own => fun sc tp e => match e with
    | .ListComp x [⟨tg, iter, [t], 0⟩] scope _ => chkI C it sc tp tg iter && notSet iter && blkC C.N sc scope (own.map fun i => (C.N.getD i "", i)) && (gSlots g).all (fun i => own.contains i) &&
        chkG C g (relS scope sc) false tg && chkE C c (relS scope sc) false t && chkE C a (relS scope sc) false x && !C.hot
    | _ => false
def chkL (C : Ctx) : IL → Scope → Bool → Expr → Bool
  | .t t => fun sc tp e => chkT C t sc tp e
  | .tk t => fun sc tp e => chkT C t sc tp e
  | .of a => fun sc tp e => chkE C a sc tp e
def chkG (C : Ctx) : IG → Scope → Bool → Expr → Bool
  | .nm i => fun sc tp e => match e with
    | .Name x _ => decide (C.N[i]? = some x) && stoB tp sc x
    | _ => false
  | .tup gs => fun sc tp e => match e with
    | .Tuple xs _ _ => chkGs C gs sc tp xs && !C.hot
    | _ => false
  | .unl gs => fun sc tp e => match e with
    | .Tuple xs _ _ => chkGs C gs sc tp xs && !C.hot
    | _ => false
  | .sub o i => fun sc tp e => match e with
    | .Subscript x s _ => notSlice s && chkE C o sc tp x && chkE C i sc tp s
    | _ => false
  | .slc o lo hi => fun sc tp e => match e with
    | .Subscript x (.Slice (some l) (some h) none _) _ => chkE C o sc tp x && chkE C lo sc tp l && chkE C hi sc tp h
    | _ => false
  | .slo o lo hi => fun sc tp e => match e with
    | .Subscript x (.Slice l h none _) _ => chkE C o sc tp x && chkO C lo sc tp l && chkO C hi sc tp h
    | _ => false
def chkGs (C : Ctx) : IGs → Scope → Bool → List Expr → Bool
  | .nil => fun _ _ es => match es with
    | [] => true
    | _ => false
  | .cons g r => fun sc tp es => match es with
    | e :: t => notStar e && chkG C g sc tp e && chkGs C r sc tp t
    | _ => false
def chkI (C : Ctx) : II → Scope → Bool → Expr → Expr → Bool
  | .lst l => fun sc tp _ e => chkL C l sc tp e
  | .rng a => fun sc tp _ e => match callNm sc "range" e with
    | some [x] => chkE C a sc tp x && notStar x
    | _ => false
  | .rng2 a b => fun sc tp _ e => match callNm sc "range" e with
    | some [x, y] => chkE C a sc tp x && chkE C b sc tp y && notStar x && notStar y
    | _ => false
  | .keys d => fun sc tp _ e => chkE C d sc tp e
  | .chr d => fun sc tp _ e => chkE C d sc tp e
  | .zipg x y xs ys => fun sc _ tg e => (match tg with
    | .Tuple _ _ _ => true
    | _ => false) && (match callNm sc "zip" e with
    | some [.Name u _, .Name v _] => decide (u = x) && decide (v = y) && gltB C sc x xs && gltB C sc y ys
    | _ => false)
  | .rngd a b c => fun sc tp _ e => match callNm sc "range" e with
    | some [x, y, z] => chkE C a sc tp x && chkE C b sc tp y && chkE C c sc tp z && notStar x && notStar y && notStar z
    | _ => false
  | .zip a b => fun sc tp tg e => (match tg with
    | .Tuple _ _ _ => true
    | _ => false) && (match callNm sc "zip" e with
    | some [x, y] => chkL C a sc tp x && chkL C b sc tp y && notStar x && notStar y
    | _ => false)
  | .enm a => fun sc tp tg e => (match tg with
    | .Tuple _ _ _ => true
    | _ => false) && (match callNm sc "enumerate" e with
    | some [x] => chkL C a sc tp x && notStar x
    | _ => false)
def gSlots : IG → List Nat
  | .nm i => [i]
  | .tup gs => gsSlots gs
  | .unl gs => gsSlots gs
  | .sub _ _ => []
  | .slc _ _ _ => []
  | .slo _ _ _ => []
def gsSlots : IGs → List Nat
  | .nil => []
  | .cons g gs => gSlots g ++ gsSlots gs
end
def isLC : Expr → Bool
  | .ListComp _ _ _ _ => true
  | .SetComp _ _ _ _ => true
  | .DictComp _ _ _ _ _ => true
  | _ => false
def iopB : BOp → Operator → Bool
  | .add, .Add => true
  | .sub, .Sub => true
  | _, _ => false
def isTup : Expr → Bool
  | .Tuple _ _ _ => true
  | .Subscript _ _ _ => true
  | _ => false
def swOk : Expr → Expr → Bool
  | .Tuple _ _ _, .Tuple vs _ _ => vs.all (foldedForSure 8)
  | .List _ _, .Tuple _ _ _ => false
  | .Name _ _, _ => false
  | _, _ => true
def callMsg : Expr → Option Str
  | .Call (.Name x _) [.Constant (.str _) _ _] [] _ => some x
  | _ => none
mutual
def chkS (C : Ctx) : IS → Scope → Stmt → Bool
  | .set i e => fun sc s => match s with
    | .Assign [.Name y _] v _ => decide (C.N[i]? = some y) && stoB true sc y && chkE C e sc true v
    | _ => false
  | .asg g e => fun sc s => match s with
    | .Assign [tg] v _ => swOk tg v && (!isLC v || isTup tg) && notStar tg && chkG C g sc true tg && chkE C e sc true v
    | _ => false
  | .par i j a b => fun sc s => match s with
    | .Assign [.Tuple [.Name x px, .Name y py] kt pt] (.Tuple [ea, eb] k2 pt2) _ => decide (C.N[i]? = some x) && decide (C.N[j]? = some y) && !(x == y) && (px.line == py.line) &&
      !(foldedForSure 8 ea && foldedForSure 8 eb) && !(constantsAlone 8 ea && constantsAlone 8 eb) && chkEs C (.cons a (.cons b .nil)) sc true [ea, eb] && chkG C (.tup (.cons (.nm i) (.cons (.nm j) .nil))) sc true (.Tuple [.Name x px, .Name y py] kt pt) && chkE C (.tup (.cons a (.cons b .nil))) sc true (.Tuple [ea, eb] k2 pt2)
    | _ => false
  | .aug i op e => fun sc s => match s with
    | .AugAssign (.Name y _) o v _ => iopB op o && decide (C.N[i]? = some y) && stoB true sc y && chkE C e sc true v
    | _ => false
  | .augx o i op e => fun sc s => match s with
    | .AugAssign (.Subscript x y _) p v _ => iopB op p && notSlice y && chkE C o sc true x && chkE C i sc true y && chkE C e sc true v
    | _ => false
  | .exp e => fun sc s => match s with
    | .Expr v _ => !isLC v && chkE C e sc true v
    | _ => false
  | .ret e => fun sc s => match s with
    | .Return (some v) _ => chkE C e sc true v
    | _ => false
  | .retN => fun _ s => match s with
    | .Return none _ => true
    | _ => false
  | .pas => fun _ s => match s with
    | .Pass _ => true
    | _ => false
  | .brk => fun _ s => match s with
    | .Break _ => true
    | _ => false
  | .cnt => fun _ s => match s with
    | .Continue _ => true
    | _ => false
  | .iff c a b => fun sc s => match s with
    | .If t x y _ => chkE C c sc true t && chkSs C a sc x && chkSs C b sc y
    | _ => false
  | .whl c b => fun sc s => match s with
    | .While t x [] _ => chkE C c sc true t && chkSs C b sc x
    | _ => false
  | .for g it b => fun sc s => match s with
    | .For tg iter x [] _ => notSet iter && chkI C it sc true tg iter && chkG C g sc true tg && chkSs C b sc x && !C.hot
    | _ => false
  | .ford g i b => fun sc s => match s with
    | .For tg (.Name y _) x [] _ => nmB C sc i y && chkG C g sc true tg && chkSs C b sc x && !C.hot
    | _ => false
  | .lck b => fun sc s => chkS C b sc s
  | .sfl c o f e => fun sc s => match s with
    | .Assign [.Attribute r g _] v _ => decide (g = f) && C.fld.contains (c, f) && chkE C o sc true r && chkE C e sc true v
    | _ => false
  | .rse c => fun sc s => match s with
    | .Raise (some e) none _ => (match callMsg e with
      | some x => !C.hot && C.exc.contains (c, x) && glB sc x && plainNm x
      | none => false)
    | _ => false
  | .tryO b c s => fun sc st => match st with
    | .Try body [.ExceptHandler (some (.Name x _)) none (s0 :: su) _] [] [] _ => !C.hot && C.exc.contains (c, x) && glB sc x && plainNm x && chkSs C b sc body && chkSs { C with hot := true } s sc (s0 :: su)
    | _ => false
  | .tryA b c i s => fun sc st => match st with
    | .Try body [.ExceptHandler (some (.Name x _)) (some n) (s0 :: su) _] [] [] _ => !C.hot && C.exc.contains (c, x) && glB sc x && plainNm x && decide (C.N[i]? = some n) && stoB false sc n && chkSs C b sc body && chkSs { C with hot := true } s sc (s0 :: su)
    | _ => false
def chkSs (C : Ctx) : ISs → Scope → List Stmt → Bool
  | .nil => fun _ ss => match ss with
    | [] => true
    | _ => false
  | .cons s r => fun sc ss => match ss with
    | t :: u => chkS C s sc t && chkSs C r sc u
    | _ => false
end
section
variable {X : Cx}
theorem pe_weak {e : Expr} {t t' : TE} (h : PE X e t) (k : ∀ Z H Q, t' Z H Q → t Z H Q) : PE X e t' := ⟨fun pins s Z H Q I q => h.run pins s Z H Q I (k Z H Q q)⟩
theorem pt_weak {e : Expr} {t t' : TT} (h : PT X e t) (k : ∀ Z H Q, t' Z H Q → t Z H Q) : PT X e t' := ⟨fun pins s Z H Q I q => h.run pins s Z H Q I (k Z H Q q)⟩
theorem pw_weak {e : Expr} {t t' : TT} (h : PW X e t) (k : ∀ Z H Q, t' Z H Q → t Z H Q) : PW X e t' := ⟨fun wh pins s Z H Q I q => h.run wh pins s Z H Q I (k Z H Q q)⟩
theorem pa_weak {e : List Expr} {t t' : TA} (h : PA X e t) (k : ∀ Z H Q, t' Z H Q → t Z H Q) : PA X e t' := ⟨fun pos pins s Z H Q I q => h.run pos pins s Z H Q I (k Z H Q q)⟩
theorem po_weak {e : Option Expr} {t t' : TO} (h : PO X e t) (k : ∀ Z H Q, t' Z H Q → t Z H Q) : PO X e t' := ⟨fun pins s Z H Q I q => h.run pins s Z H Q I (k Z H Q q)⟩
theorem pg_weak {e : Expr} {t t' : TG} (h : PG X e t) (k : ∀ v Z H Q, t' v Z H Q → t v Z H Q) : PG X e t' := ⟨fun pins s Z H v u Q I r q => h.run pins s Z H v u Q I r (k v Z H Q q)⟩
theorem pgs_weak {e : List Expr} {t t' : TGs} (h : PGs X e t) (k : ∀ v Z H Q, t' v Z H Q → t v Z H Q) : PGs X e t' := ⟨fun pins s Z H v u Q I r q => h.run pins s Z H v u Q I r (k v Z H Q q)⟩
theorem ps_weak {e : Stmt} {t t' : TS} (h : PS X e t) (k : ∀ D Z H, t' D Z H → t D Z H) : PS X e t' := ⟨fun pins s Z H D I q => h.run pins s Z H D I (k D Z H q)⟩
theorem pss_weak {e : List Stmt} {t t' : TS} (h : PSs X e t) (k : ∀ D Z H, t' D Z H → t D Z H) : PSs X e t' := ⟨fun pins s Z H D I q => h.run pins s Z H D I (k D Z H q)⟩
theorem pi_weak {tg e : Expr} {t t' : TI} (h : PI X tg e t) (k : ∀ Z H Q, t' Z H Q → t Z H Q) : PI X tg e t' := ⟨fun pins s Z H Q I q => h.run pins s Z H Q I (k Z H Q q)⟩
end
abbrev MTE := Envr → Sto → WQ → XQ → Prop
section
variable (K : PySem.W.Frag) (Wx : WX)
def PostE (σ : Envr) (S : Sto) (Z : L2.St) (H : Hp) (Q : WQ) (QV : VK) : Prop := ∀ w S' v H', Q w S' → Gd K σ S' Z H' → Ext S H S' H' → RepW K H' w v → QV v H'
def PostX (σ : Envr) (S : Sto) (Z : L2.St) (H : Hp) (X : XQ) : Prop := ∀ C S' H', X C S' → Gd K σ S' Z H' → Ext S H S' H' → Wx (.ref C) none Z H'
def liftE (m : MTE) : TE := fun Z H QV => ∃ σ S Q X, Gd K σ S Z H ∧ m σ S Q X ∧ PostE K σ S Z H Q QV ∧ PostX K Wx σ S Z H X
def liftB (m : MTE) : TT := fun Z H QB => ∃ (σ : Envr) (S : Sto) (Q : Bool → Sto → Prop) (X : XQ), Gd K σ S Z H ∧ m σ S (fun w S' => asBl w fun b => Q b S') X ∧ (∀ b S' H', Q b S' → Gd K σ S' Z H' → Ext S H S' H' → QB b H') ∧ PostX K Wx σ S Z H X
def liftA (m : Envr → Sto → (List W → Sto → Prop) → XQ → Prop) : TA := fun Z H QV => ∃ σ S Q X, Gd K σ S Z H ∧ m σ S Q X ∧ (∀ ws S' vs H', Q ws S' → Gd K σ S' Z H' → Ext S H S' H' → RepWs K H' ws vs → QV vs H') ∧ PostX K Wx σ S Z H X
def liftO (m : Envr → Sto → (Option Int → Sto → Prop) → XQ → Prop) : TO := fun Z H QV => ∃ σ S Q X, Gd K σ S Z H ∧ m σ S Q X ∧ (∀ o S' H', Q o S' → Gd K σ S' Z H' → Ext S H S' H' → QV o H') ∧ PostX K Wx σ S Z H X
def liftT (m : Envr → Sto → (List W → Sto → Prop) → XQ → Prop) : TE := fun Z H QV => ∃ σ S Q X, Gd K σ S Z H ∧ m σ S Q X ∧
  (∀ ws S' p vs H', Q ws S' → Gd K σ S' Z H' → Ext S H S' H' → H' p = some (.lst vs) → RepWs K H' ws vs → S' p = none → H p = none → QV (.ref p) H') ∧ PostX K Wx σ S Z H X
def KindAt (H : Hp) (p : Addr) (vs : List V) : LK → Prop
  | .ls => H p = some (.lst vs)
  | .ro => SqL K H p vs
  | .tu => H p = some (.tup vs)
def Rdb (S : Sto) (H : Hp) (ws : List W) (k : LK) (st : Sto → Prop) (v : V) : Prop := st S ∧ ∃ p, v = .ref p ∧ ∀ S2 H2, Ext S H S2 H2 → StOk K S2 H2 → st S2 → ∃ vs, RepWs K H2 ws vs ∧ KindAt K H2 p vs k
def liftL (m : Envr → Sto → LQ → XQ → Prop) : TE := fun Z H QV => ∃ (σ : Envr) (S : Sto) (Q : LQ) (X : XQ), Gd K σ S Z H ∧ m σ S Q X ∧
  (∀ ws k st S' v H', Q ws k st S' → Gd K σ S' Z H' → Ext S H S' H' → Rdb K S' H' ws k st v → QV v H') ∧ PostX K Wx σ S Z H X
def OutEq (sl : List Nat) (Z Z' : L2.St) : Prop := Z'.length = Z.length ∧ ∀ i, i ∉ sl → Z'[i]? = Z[i]?
def liftG (sl : List Nat) (m : W → Envr → Sto → (Envr → Sto → Prop) → XQ → Prop) : TG := fun v Z H QV => ∃ w σ S Q, Gd K σ S Z H ∧ RepW K H w v ∧ m w σ S Q noX ∧
  (∀ σ' S' Z' H', Q σ' S' → Gd K σ' S' Z' H' → Ext S H S' H' → OutEq sl Z Z' → QV Z' H')
def liftGs (sl : List Nat) (m : List W → Envr → Sto → (Envr → Sto → Prop) → XQ → Prop) : TGs := fun vs Z H QV => ∃ ws σ S Q, Gd K σ S Z H ∧ RepWs K H ws vs ∧ m ws σ S Q noX ∧
  (∀ σ' S' Z' H', Q σ' S' → Gd K σ' S' Z' H' → Ext S H S' H' → OutEq sl Z Z' → QV Z' H')
def Walk (S : Sto) (H : Hp) (ws : List W) (st : Sto → Prop) (J : It) : Prop := ∀ S2 H2, Ext S H S2 H2 → StOk K S2 H2 → st S2 →
  (∀ i w, ws[i]? = some w → J.go i H2 ∧ ∀ x H3, J.yld i H2 x H3 → StOk K S2 H3 ∧ Ext S2 H2 S2 H3 ∧ RepW K H3 w x) ∧ J.stop ws.length H2
def liftI (m : Envr → Sto → (List W → (Sto → Prop) → Sto → Prop) → XQ → Prop) : TI := fun Z H R => ∃ (σ : Envr) (S : Sto) (Q : List W → (Sto → Prop) → Sto → Prop) (X : XQ), Gd K σ S Z H ∧ m σ S Q X ∧
  (∀ ws st S' J H', Q ws st S' → Gd K σ S' Z H' → Ext S H S' H' → Walk K S' H' ws st J → R J H') ∧ PostX K Wx σ S Z H X
def liftS (m : MEnds → Envr → Sto → Prop) : TS := fun D Z H => ∃ σ S E, Gd K σ S Z H ∧ m E σ S ∧
  (∀ σ' S' Z' H', E.nx σ' S' → Gd K σ' S' Z' H' → Ext S H S' H' → D.nx Z' H') ∧
  (∀ w S' v H', E.rt w S' → StOk K S' H' → Ext S H S' H' → RepW K H' w v → D.rt v H') ∧
  (∀ σ' S' Z' H', E.bk σ' S' → Gd K σ' S' Z' H' → Ext S H S' H' → D.bk Z' H') ∧
  (∀ σ' S' Z' H', E.ct σ' S' → Gd K σ' S' Z' H' → Ext S H S' H' → D.ct Z' H') ∧
  (∀ σ' C S' Z' H', E.ex σ' C S' → Gd K σ' S' Z' H' → Ext S H S' H' → Wx (.ref C) none Z' H')
def liftSp (m : MSp) : Sp := fun vs H Q E => ∃ ws S MQ MX, RepWs K H ws vs ∧ StOk K S H ∧ m ws S MQ MX ∧
  (∀ w S' v H', MQ w S' → StOk K S' H' → Ext S H S' H' → RepW K H' w v → Q v H') ∧ ∀ C S' H', MX C S' → StOk K S' H' → Ext S H S' H' → E (.ref C) none H'
end
section
variable {K : PySem.W.Frag} {Wx : WX} {σ : Envr} {S S1 S' : Sto} {Z : L2.St} {H H1 H' : Hp}
theorem PostX.next {X : XQ} (p : PostX K Wx σ S Z H X) (x : Ext S H S1 H1) : PostX K Wx σ S1 Z H1 X := fun C S' H' h g e => p C S' H' h g (x.trans e)
theorem PostX.no : PostX K Wx σ S Z H noX := fun _ _ _ h => h.elim
theorem bin_lift {ma mb : MTE} {op : W → W → Sto → WQ → Prop} {r : R2} {QV : VK}
    (hop : ∀ x y S Q vx vy H QV, Gd K σ S Z H → RepW K H x vx → RepW K H y vy → op x y S Q → PostE K σ S Z H Q QV → r vx vy H QV)
    {Q : WQ} {X : XQ} (g : Gd K σ S Z H) (h : ma σ S (fun x S1 => mb σ S1 (fun y S2 => op x y S2 Q) X) X) (p : PostE K σ S Z H Q QV) (px : PostX K Wx σ S Z H X) :
    tOp r (liftE K Wx ma) (liftE K Wx mb) Z H QV := by
  refine ⟨σ, S, _, X, g, h, fun x S1 vx H1 h1 g1 e1 r1 => ?_, px⟩
  refine ⟨σ, S1, _, X, g1, h1, fun y S2 vy H2 h2 g2 e2 r2 => ?_, px.next e1⟩
  exact hop x y S2 Q vx vy H2 QV g2 (e2.rep g1.st r1) r2 h2 fun w S' v H' q g' e' r' => p w S' v H' q g' ((e1.trans e2).trans e') r'
theorem liftB_E {m : MTE} {QB : Bool → Hp → Prop} (h : liftB K Wx m Z H QB) : liftE K Wx m Z H fun v H' => ∃ c, v = .bl c ∧ QB c H' := by
  obtain ⟨σ, S, Q, X, g, hm, p, px⟩ := h
  refine ⟨σ, S, _, X, g, hm, fun w S' v H' q g' e r => ?_, px⟩
  cases w <;> first | exact q.elim | skip
  cases r
  exact ⟨_, rfl, p _ S' H' q g' e⟩
end
def bltNames : List Str := ["len", "max", "min", "range", "zip", "enumerate", "tuple", "list", "sum", "any", "all", "sorted", "set", "isinstance", "int", "bool", "str", "abs", "dict", "ValueError"]
structure ExFacts (X : Cx) (D : Addr) (x : Str) : Prop where
  glo : X.mg x = some (.ref D)
  xin : PySem.W.excIn X.K D He.veBase "ValueError.__new__" = true
  kp : PySem.W.keepIn X.K (.ref D) = true
  bs : PySem.W.subIn X.K (.ref D) (.type "BaseException") = some true
  ty : PySem.W.typeIn X.K (.ref D) = some (.type "type")
  exc : ExcC X.K D
  ve : PySem.W.kitOne X.K (.ref D) (.type "ValueError") = some true
def rIsET (K : PySem.W.Frag) (D a : Addr) : List V → Hp → VK → Prop := fun xs H Q => ∃ (tp : Addr) (cs : List V) (us : List Value) (b : Bool), xs = [.ref a, .ref tp] ∧ H tp = some (.tup cs) ∧ Paired ClsV cs us ∧ PySem.W.kitAny K (.ref D) us = some b ∧ Q (.bl b) H
theorem call_isET {X : Cx} {a D : Addr} {oe : Obj} {pn : List (Addr × Obj)} (C : ExcC X.K D) (hz : Zc (.ref D) none oe) (hf : ∃ vs, oe.data = .fields vs) : CallR (X.suite a ((a, oe) :: pn)) (.builtin "isinstance") (rIsET X.K D a) := by
  intro pins s σ H xs us Q I r h
  obtain ⟨tp, cs, ws, b, rfl, hT, k, e, q⟩ := h
  cases r with
  | cons rx rr =>
    cases rr with
    | cons rt rr =>
      cases rr
      cases rx
      cases rt
      obtain ⟨hget, _⟩ := I.pin (a, oe) (List.mem_append.mpr (.inl List.mem_cons_self))
      obtain ⟨vs, hv⟩ := hf
      have J : PySem.W.InstAt s.heap a oe D none := by
        obtain ⟨oc, od, oda, osl⟩ := oe
        obtain ⟨h1, h2⟩ := hz
        dsimp only at h1 h2 hv
        subst h1 h2 hv
        exact ⟨hget, rfl, rfl, trivial⟩
      obtain ⟨_, its, rv, o, h1, h2, n, h3⟩ := (show ObjOk _ _ H s.heap tp (.tup cs) from I.hok tp _ hT)
      have e3 := ClsV.all k rv
      subst e3
      obtain ⟨oc, od, dt, sl⟩ := o
      simp only at h2 h3
      subst h2 h3
      exact PySem.W.kia_tup (PySem.W.handS_kitx_exc C.hg C.hk C.hs C.hd C.ha C.hn C.ht C.hm) I.kIn J h1 e (fun z => nomatch z) fun tk => ⟨.bl b, H, I.kept (t' := tk) fun _ _ z => z, rfl, q⟩
def TupK (K : PySem.W.Frag) (a : Addr) (xs : List V) : Prop := ∃ (o : Obj) (its : Array Value) (n : Nat), K.lookup a = some o ∧ o.cls = .type "tuple" ∧ o.data = .seq its n ∧ its.size ≤ sizeLine ∧ Vals xs its.toList
structure XOk (C : Ctx) (G : Gs) (X : Cx) (Wx : WX) : Prop where
  N : X.N = C.N
  calm : C.hot = false → X.calm = true
  nd : X.N.Nodup
  un : X.A.units + 64 < cLine
  room : C.hot = false → Room 0 X.A
  takes : Takes X Wx
  po : PassesOwn (model X.prog X.w) X.A X.env X.xe
  hxs : C.hot = true → ∃ a n, G.hx = some (a, n)
  mth : ∀ f c m, (f, c, m) ∈ C.mth → C.hot = false → ∃ k fa fd ps, FnOk X.prog X.w X.K X.mg X.base (L2.CX X.prog X.w) k fa fd ps (liftSp X.K (G f)) ∧ Room k X.A ∧ Cls X.K (G.cl c) ∧ Meth X.K (G.cl c) m fa ∧ Binds X.K fd ps []
  mks : ∀ f c x, (f, c, x) ∈ C.mks → C.hot = false → ∃ k fa fd ps, FnOk X.prog X.w X.K X.mg X.base (L2.CX X.prog X.w) k fa fd ps (liftSp X.K (G f)) ∧ Room (k + 1) X.A ∧ Mk X.K (G.cl c) fa ∧ X.mg x = some (.ref (G.cl c)) ∧ Binds X.K fd ps []
  fld : ∀ c f, (c, f) ∈ C.fld → Cls X.K (G.cl c) ∧ NoAttr X.K (G.cl c) f
  exc : ∀ c x, (c, x) ∈ C.exc → ExFacts X (G.cl c) x
  exm : ∀ c x d y, (c, x) ∈ C.exc → (d, y) ∈ C.exc → PySem.W.exmOne X.K (.ref (G.cl c)) (.ref (G.cl d)) = some (subX c d) ∧ PySem.W.kitOne X.K (.ref (G.cl c)) (.ref (G.cl d)) = some (subX c d)
  exs : ∀ n ∈ G.ex, ∃ x, (n, x) ∈ C.exc
  gls : ∀ x k, (x, k) ∈ C.gls → ∃ u, X.mg x = some u ∧ RelV (kV k) u
  glt : ∀ x ks, (x, ks) ∈ C.glt → ∃ a, X.mg x = some (.ref a) ∧ TupK X.K a (ks.map kV)
  icl : ∀ c x, (c, x) ∈ C.icl → C8.InsC X.K (G.cl c) ∧ X.mg x = some (.ref (G.cl c))
  hx0 : C.hot = false → G.hx = none
  hx : ∀ a n, G.hx = some (a, n) → (∃ x, (n, x) ∈ C.exc) ∧ CallR X (.builtin "isinstance") (rIsE X.K (G.cl n) a) ∧ CallR X (.builtin "isinstance") (rIsET X.K (G.cl n) a)
  fns : ∀ i x, C.fns.lookup i = some x → C.hot = false → ∃ k f fd ps, FnOk X.prog X.w X.K X.mg X.base (L2.CX X.prog X.w) k f fd ps (liftSp X.K (G i)) ∧ Room k X.A ∧ X.mg x = some (.ref f) ∧ PySem.W.keepIn X.K (.ref f) = true ∧ Binds X.K fd ps []
  blt : ∀ x ∈ bltNames, X.mg x = none
theorem XOk.hu {C : Ctx} {G : Gs} {X : Cx} {Wx : WX} (o : XOk C G X Wx) : X.A.units + 64 < cLine := o.un
structure Snd (X : Cx) (Wx : WX) (e : Expr) (m : MTE) : Prop where
  v : PE X e (liftE X.K Wx m)
  t : PT X e (liftB X.K Wx m)
  w : (∃ op vs p, e = .BoolOp op vs p) → PW X e (liftB X.K Wx m)
section
variable {X : Cx} {Wx : WX}
theorem Snd.plain {e : Expr} {m : MTE} (h : PE X e (liftE X.K Wx m)) (he : ∀ whole, isTrue e X.env whole = (do let v ← whole; standAt e.pos; holding [v] (truthy v))) (hb : ¬ ∃ op vs p, e = .BoolOp op vs p) : Snd X Wx e m :=
  ⟨h, pt_weak (pt_val h he) fun Z H Q q => liftB_E q, fun z => (hb z).elim⟩
theorem Snd.cmp {e : Expr} {m : MTE} {t : TE} (h : PE X e t) (ht : PT X e (tTest t)) (k : ∀ Z H Q, liftE X.K Wx m Z H Q → t Z H Q) (hb : ¬ ∃ op vs p, e = .BoolOp op vs p) : Snd X Wx e m :=
  ⟨pe_weak h k, pt_weak ht fun Z H Q q => k Z H _ (liftB_E q), fun z => (hb z).elim⟩
end
section
variable {K : PySem.W.Frag} {H H' : Hp} {S : Sto} {κ : Type}
theorem RepF.length : ∀ {kvs : List (κ × W)} {vs : List (κ × V)}, RepF K H kvs vs → kvs.length = vs.length
  | [], [], _ => rfl
  | (_, _) :: _, (_, _) :: _, ⟨_, _, t⟩ => by simp [RepF.length t]
  | [], _ :: _, h => h.elim
  | _ :: _, [], h => h.elim
theorem RepF.keys : ∀ {kvs : List (κ × W)} {vs : List (κ × V)}, RepF K H kvs vs → kvs.map (·.1) = vs.map (·.1)
  | [], [], _ => rfl
  | (_, _) :: _, (_, _) :: _, ⟨e, _, t⟩ => by rw [List.map_cons, List.map_cons, RepF.keys t]; exact congrArg (· :: _) e
  | [], _ :: _, h => h.elim
  | _ :: _, [], h => h.elim
variable [DecidableEq κ]
theorem RepF.val {k : κ} : ∀ {kvs : List (κ × W)} {vs : List (κ × V)}, RepF K H kvs vs → (∀ w, valD kvs k = some w → ∃ v, valV vs k = some v ∧ RepW K H w v) ∧ (valD kvs k = none → valV vs k = none)
  | [], [], _ => ⟨fun w e => by simp [valD] at e, fun _ => rfl⟩
  | (k1, w1) :: r, (k2, v1) :: t, ⟨e, rv, rt⟩ => by
    have e' : k1 = k2 := e
    subst e'
    have ih := RepF.val (k := k) rt
    by_cases h : k1 = k
    · subst h
      refine ⟨fun w e => ?_, fun e => ?_⟩
      · have : w1 = w := by simpa [valD] using e
        subst this
        exact ⟨v1, by simp [valV], rv⟩
      · simp [valD] at e
    · have a1 : valD ((k1, w1) :: r) k = valD r k := by unfold valD; rw [List.find?_cons_of_neg (by simpa using h)]
      have a2 : valV ((k1, v1) :: t) k = valV t k := by unfold valV; rw [List.find?_cons_of_neg (by simpa using h)]
      rw [a1, a2]; exact ih
  | [], _ :: _, h => h.elim
  | _ :: _, [], h => h.elim
theorem RepF.any {k : κ} : ∀ {kvs : List (κ × W)} {vs : List (κ × V)}, RepF K H kvs vs → (kvs.any fun kv => decide (kv.1 = k)) = (vs.any fun kv => decide (kv.1 = k))
  | [], [], _ => rfl
  | (_, _) :: _, (_, _) :: _, ⟨e, _, t⟩ => by
    rw [List.any_cons, List.any_cons, RepF.any t]
    have e' := e
    dsimp only at e' ⊢
    rw [e']
  | [], _ :: _, h => h.elim
  | _ :: _, [], h => h.elim
theorem RepF.upd1 {k : κ} {w : W} {v : V} (rw' : RepW K H w v) : ∀ {kvs : List (κ × W)} {vs : List (κ × V)}, RepF K H kvs vs → RepF K H (kvs.map fun kv => if kv.1 = k then (kv.1, w) else kv) (vs.map fun kv => if kv.1 = k then (kv.1, v) else kv)
  | [], [], _ => trivial
  | (k1, w1) :: r, (k2, v1) :: t, ⟨e, rv, rt⟩ => by
    have e' : k1 = k2 := e
    subst e'
    rw [List.map_cons, List.map_cons]
    by_cases h : k1 = k
    · rw [if_pos h, if_pos h]; exact ⟨rfl, rw', RepF.upd1 rw' rt⟩
    · rw [if_neg h, if_neg h]; exact ⟨rfl, rv, RepF.upd1 rw' rt⟩
  | [], _ :: _, h => h.elim
  | _ :: _, [], h => h.elim
theorem RepF.snoc {k : κ} {w : W} {v : V} (rw' : RepW K H w v) : ∀ {kvs : List (κ × W)} {vs : List (κ × V)}, RepF K H kvs vs → RepF K H (kvs ++ [(k, w)]) (vs ++ [(k, v)])
  | [], [], _ => ⟨rfl, rw', trivial⟩
  | (_, _) :: _, (_, _) :: _, ⟨e, rv, rt⟩ => ⟨e, rv, RepF.snoc rw' rt⟩
  | [], _ :: _, h => h.elim
  | _ :: _, [], h => h.elim
theorem RepF.put {k : κ} {w : W} {v : V} (rw' : RepW K H w v) {kvs : List (κ × W)} {vs : List (κ × V)} (h : RepF K H kvs vs) : RepF K H (putD kvs k w) (putK vs k v) := by
  unfold putD putK
  rw [h.any]
  split
  · exact h.upd1 rw'
  · exact h.snoc rw'
theorem RepF.drop {k : κ} : ∀ {kvs : List (κ × W)} {vs : List (κ × V)}, RepF K H kvs vs → RepF K H (dropD kvs k) (dropK vs k)
  | [], [], _ => trivial
  | (k1, w1) :: r, (k2, v1) :: t, ⟨e, rv, rt⟩ => by
    have e' : k1 = k2 := e
    subst e'
    have ih := RepF.drop (k := k) rt
    unfold dropD dropK at ih ⊢
    rw [List.filter_cons, List.filter_cons]
    by_cases h : k1 = k
    · rw [if_neg (by simp [h]), if_neg (by simp [h])]; exact ih
    · rw [if_pos (by simp [h]), if_pos (by simp [h])]; exact ⟨rfl, rv, ih⟩
  | [], _ :: _, h => h.elim
  | _ :: _, [], h => h.elim
end
section
variable {K : PySem.W.Frag} {H H' : Hp} {S : Sto}
theorem FzAt.rd {a : Addr} {u : HO} {b : Bool} (h : FzAt H a u b) : Rd H a u := by
  cases b with
  | false => exact .inl h
  | true => exact .inr h
theorem keyW_rep {w : W} {v : V} {k : Key} (r : RepW K H w v) (h : keyW w = some k) : v = kV k := by
  cases r <;> first | (simp [keyW] at h; done) | (simp only [keyW, Option.some.injEq] at h; subst h; rfl)
theorem keysW_rep : ∀ {ws : List W} {vs : List V} {ks : List Key}, RepWs K H ws vs → keysW ws = some ks → vs = ks.map kV
  | _, _, ks, .nil, h => by simp only [keysW, Option.some.injEq] at h; subst h; rfl
  | _, _, ks, .cons r t, h => by
    simp only [keysW] at h
    split at h
    · rename_i k l e1 e2
      cases h
      rw [keyW_rep r e1, keysW_rep t e2]; rfl
    · cases h
theorem tkeyW_rep {w : W} {v : V} {k : List Key} (r : RepW K H w v) (h : tkeyW w = some k) : ∃ b, v = .ref b ∧ H b = some (.tup (k.map kV)) := by
  cases r <;> first | (simp [tkeyW] at h; done) | skip
  rename_i ws a vs e rs
  simp only [tkeyW] at h
  exact ⟨a, rfl, by rw [e, keysW_rep rs h]⟩
theorem intsOf_nums : ∀ {ws : List W} {vs : List V} {is : List Int}, RepWs K H ws vs → intsOf ws = some is → vs = is.map V.int
  | _, _, _, .nil, h => by cases h; rfl
  | _, _, _, .cons (.int i) t, h => by
    simp only [intsOf] at h
    obtain ⟨l, e, rfl⟩ := Option.map_eq_some_iff.mp h
    rw [intsOf_nums t e]; rfl
  | _, _, _, .cons .non _, h => by cases h
  | _, _, _, .cons (.bl _) _, h => by cases h
  | _, _, _, .cons (.str _) _, h => by cases h
  | _, _, _, .cons (.ref _) _, h => by cases h
  | _, _, _, .cons (.ty _) _, h => by cases h
  | _, _, _, .cons (.tup _ _) _, h => by cases h
  | _, _, _, .cons (.rol _ _) _, h => by cases h
theorem nkW_rep {w : W} {v : V} {k : NK} (r : RepW K H w v) (h : nkW w = some k) : KeyOf H k v := by
  cases r <;> first | (simp [nkW] at h; done) | skip
  · cases h; rfl
  · rename_i ws a vs e rs
    obtain ⟨is, e1, rfl⟩ := Option.map_eq_some_iff.mp (show (intsOf ws).map some = some k from h)
    exact ⟨a, rfl, by rw [e, intsOf_nums rs e1]⟩
theorem putD_keys {κ : Type} [DecidableEq κ] {kvs : List (κ × W)} {k : κ} {w : W} (nd : (kvs.map (·.1)).Nodup) : ((putD kvs k w).map (·.1)).Nodup := by
  unfold putD
  split
  · rw [List.map_map]
    rw [List.map_congr_left (g := (·.1)) fun p _ => by dsimp only [Function.comp]; split <;> rfl]
    exact nd
  · rename_i h
    rw [List.map_append, List.nodup_append]
    refine ⟨nd, by simp, fun a ha b hb e => ?_⟩
    simp only [List.map_cons, List.map_nil, List.mem_singleton] at hb
    obtain ⟨p, hp, rfl⟩ := List.mem_map.mp ha
    exact h (List.any_eq_true.mpr ⟨p, hp, by simpa using e.trans hb⟩)
theorem putD_le {κ : Type} [DecidableEq κ] {kvs : List (κ × W)} {k : κ} {w : W} : (putD kvs k w).length ≤ kvs.length + 1 := by
  unfold putD
  split
  · rw [List.length_map]; omega
  · rw [List.length_append, List.length_singleton]; omega
theorem dget_of {a : Addr} {y : W} {vy : V} {w : W} (g : StOk K S H) (ry : RepW K H y vy) (h : idxW (.ref a) y S = some w) (hl : ∀ ws, S a ≠ some (.lst ws)) (hn : ∀ kvs, S a ≠ some (.dn kvs)) : ∃ v, DGet H a vy (some v) ∧ RepW K H w v := by
  unfold idxW at h
  dsimp only at h
  split at h
  · rename_i ws e; exact (hl ws e).elim
  · rename_i fz kvs e
    obtain ⟨k, hk, hv⟩ := Option.bind_eq_some_iff.mp h
    obtain ⟨vs, ez, rf⟩ := g _ _ e
    obtain ⟨v, e1, rv⟩ := rf.val.1 w hv
    exact ⟨v, .inl ⟨vs, k, ez.rd, keyW_rep ry hk, e1.symm⟩, rv⟩
  · rename_i fz kvs e
    obtain ⟨k, hk, hv⟩ := Option.bind_eq_some_iff.mp h
    obtain ⟨vs, ez, rf⟩ := g _ _ e
    obtain ⟨v, e1, rv⟩ := rf.val.1 w hv
    obtain ⟨b, e2, e3⟩ := tkeyW_rep ry hk
    exact ⟨v, .inr ⟨vs, k, b, ez.rd, e2, e3, e1.symm⟩, rv⟩
  · rename_i kvs e; exact (hn kvs e).elim
  · cases h
theorem has_of {κ : Type} [DecidableEq κ] {kvs : List (κ × W)} {vs : List (κ × V)} {k : κ} (rf : RepF K H kvs vs) : (valV vs k).isSome = (valD kvs k).isSome := by
  cases e : valD kvs k with
  | none => rw [rf.val.2 e]; rfl
  | some w => obtain ⟨v, e1, _⟩ := rf.val.1 w e; rw [e1]; rfl
end
section
variable {X : Cx}
def rIxD : R2 := fun x y H Q => ∃ a v, x = .ref a ∧ DGet H a y (some v) ∧ Q v H
theorem ix_dict (hu : X.A.units + 1 < cLine) : IxR X rIxD := by
  intro value slice pins s σ H x y v u Q I rx ry h hs
  obtain ⟨a, w, rfl, g, q⟩ := h
  obtain rfl : v = Value.ref a := rx
  have hT := dict_typeIs I g
  unfold subscriptTail
  refine wpAny_bind ?_
  rw [getitemInPython_of_ne hT.not_modules]
  refine wpAny_bind (wpAny_specialOf hT PySem.F.slot_dict_getitem.lookup ?_)
  have fin : wpAny (model X.prog X.w) X.A (subscripted slice false (.ref a) u) (fun r s₃ => wpAny (model X.prog X.w) X.A (letTemporaryGo value (.ref a) r >>= fun _ => pure r) (EP X pins σ Q) X.xe s₃) X.xe s := by
    rw [hs]
    exact wpAny_operating (wpAny_mono (d_getItem hu I g ry fun w' s3 I3 rw' => (⟨w, H, I3, rw', q⟩ : EP X pins σ Q w' s3)) (fun r s₃ h₃ => wpAny_bind (wpAny_letTemporaryGo (wpAny_pure h₃))) fun _ _ x => x)
  first
    | exact wpAny_pure (wpAny_bind fin)
    | exact wpAny_bind (wpAny_pure (wpAny_bind fin))
    | exact wpAny_bind fin
def rInD : R2 := fun y x H Q => ∃ a o, x = .ref a ∧ DGet H a y o ∧ Q (.bl o.isSome) H
def rSgn : R2 := fun x y H Q => ∃ (c : Nat) (z : Str), x = .str ⟨#[c]⟩ ∧ y = .str z ∧ Q (.bl (decide (c ∈ z.cps.toList))) H
def rNSgn : R2 := fun x y H Q => ∃ (c : Nat) (z : Str), x = .str ⟨#[c]⟩ ∧ y = .str z ∧ Q (.bl (!decide (c ∈ z.cps.toList))) H
def rNotInD : R2 := fun y x H Q => ∃ a o, x = .ref a ∧ DGet H a y o ∧ Q (.bl (!o.isSome)) H
theorem op_inD (hu : X.A.units + 1 < cLine) : OpR X (compareOp .In) rInD := by
  intro pins s σ H y x iv u Q I ry rx h
  obtain ⟨a, o, rfl, g, q⟩ := h
  obtain rfl : u = Value.ref a := rx
  exact d_in hu I g ry fun s3 I3 => ⟨.bl o.isSome, H, I3, rfl, q⟩
theorem op_notInD (hu : X.A.units + 1 < cLine) : OpR X (compareOp .NotIn) rNotInD := by
  intro pins s σ H y x iv u Q I ry rx h
  obtain ⟨a, o, rfl, g, q⟩ := h
  obtain rfl : u = Value.ref a := rx
  exact d_notIn hu I g ry fun s3 I3 => ⟨.bl (!o.isSome), H, I3, rfl, q⟩
def rMulS : R2 := fun x y H Q => ∃ z n, x = .str z ∧ y = .int n ∧ (0 ≤ n ∧ n ≤ 1000000) ∧ z.length * n.toNat ≤ 1000000 ∧ Q (.str (Txt.mul z n)) H
theorem op_mulS : OpR X (binaryOp .Mult) rMulS := by
  intro pins s σ H x y v u Q I rx ry h
  obtain ⟨z, n, rfl, rfl, h0, hz, q⟩ := h
  obtain ⟨t, rfl⟩ := rx
  obtain ⟨t2, rfl⟩ := ry
  refine SB.mul ⟨?_, fun h1 _ => ?_, fun h1 _ => ?_⟩ fun t' k => ⟨.str (Txt.mul z n), H, I.tok _, ⟨t', rfl⟩, q⟩
  · rw [decide_eq_false (by omega), decide_eq_false (by omega)]; rfl
  · intro z2
    have hn : 0 < n := by omega
    have e1 := Int.lt_ediv_add_one_mul_self (2 ^ 63 - 1) hn
    have e2 : ((2 ^ 63 - 1) / n + 1) * n ≤ (z.length : Int) * n := Int.mul_le_mul_of_nonneg_right (by omega) (by omega)
    have e3 : (z.length : Int) * n ≤ 1000000 := by
      have : ((z.length * n.toNat : Nat) : Int) ≤ 1000000 := by omega
      rw [Int.natCast_mul, Int.toNat_of_nonneg (by omega)] at this
      exact this
    omega
  · unfold Builtin.Str.tooLong
    rw [decide_eq_false]
    rw [sizeLine_eq]
    omega
theorem PSet.or {r r' : TSet} (h : PSet X r) (h' : PSet X r') : PSet X (fun o i v H Q => r o i v H Q ∨ r' o i v H Q) := by
  intro pins s σ H o i v ov iv u Q I ro ri rv q
  rcases q with q | q
  · exact h pins s σ H o i v ov iv u Q I ro ri rv q
  · exact h' pins s σ H o i v ov iv u Q I ro ri rv q
end
section
variable {K : PySem.W.Frag} {H : Hp}
mutual
theorem RepW.dp : ∀ {w : W} {v : V}, RepW K H w v → w.pure = true → Dp K H v w.dat
  | _, _, .non, _ => .non
  | _, _, .bl b, _ => .bl b
  | _, _, .int i, _ => .int i
  | _, _, .str x, _ => .str x
  | _, _, .ref a, h => by simp [W.pure] at h
  | _, _, .ty n, h => by simp [W.pure] at h
  | _, _, .tup q r, h => .tup (SqT.of q) (RepWs.dp r (by simpa [W.pure] using h))
  | _, _, .rol q r, h => .lst q.sql (RepWs.dp r (by simpa [W.pure] using h))
theorem RepWs.dp : ∀ {ws : List W} {vs : List V}, RepWs K H ws vs → W.pures ws = true → DpAll K H vs (W.dats ws)
  | _, _, .nil, _ => .nil
  | _, _, .cons r t, h => by
    have h' := h
    simp only [W.pures, Bool.and_eq_true] at h'
    exact .cons (RepW.dp r h'.1) (RepWs.dp t h'.2)
end
end
section
variable {X : Cx} {Wx : WX} {K : PySem.W.Frag} {σ : Envr} {S S1 : Sto} {Z : L2.St} {H : Hp}
theorem op_mulX : OpR X (binaryOp .Mult) (rI mulOk fun i j => .int (i * j)) := opI fun i j _ _ _ _ _ hc q => mul_int q (by
  have b : ∀ x : Int, Builtin.Int.intBits x ≤ x.natAbs.log2 + 1 := fun x => by
    unfold Builtin.Int.intBits
    split <;> omega
  have h1 := b i
  have h2 := b j
  have h3 : i.natAbs.log2 + j.natAbs.log2 < 100000000 := hc
  have e : bitsLine = 134217728 := by decide
  unfold IntMulOk
  intro z
  rw [Bool.and_eq_true] at z
  have z2 := z.2
  unfold Builtin.Int.intTooBig at z2
  have z3 := of_decide_eq_true z2
  rw [e] at z3
  omega)
theorem post_tup {Q : WQ} {QV : VK} {a : Addr} {ws : List W} {vs : List V} (p : PostE K σ S Z H Q QV) (g : Gd K σ S Z H) (ha : H a = none) (r : RepWs K H ws vs) (h : Q (.tup ws) S) : QV (.ref a) (upd H a (.tup vs)) :=
  p _ _ _ _ h (g.next (Ext.fresh ha) (g.st.fresh ha)) (Ext.fresh ha) (.tup upd_same ((Ext.fresh (S := S) (o := .tup vs) ha).reps g.st r))
def binR (K : PySem.W.Frag) : BOp → R2
  | .add => fun x y H Q => rI0 (fun i j => .int (i + j)) x y H Q ∨ (∃ i j, x = .str i ∧ y = .str j ∧ i.length + j.length ≤ sizeLine ∧ Q (.str (i ++ j)) H) ∨ rCatA K x y H Q
  | .sub => rI0 fun i j => .int (i - j)
  | .mul => fun x y H Q => rI mulOk (fun i j => .int (i * j)) x y H Q ∨ rMulS x y H Q
  | .fdiv => rI (fun _ j => divOk j) fun i j => .int (i / j)
  | .mod => rI (fun _ j => 0 < j) fun i j => .int (i % j)
  | .pow => rI powOk fun i j => .int (i ^ j.toNat)
theorem binR_ok {op : BOp} {o : Operator} (h : opB op o = true) : OpR X (binaryOp o) (binR X.K op) := by
  cases op <;> cases o <;> first | exact absurd h (by decide) | skip
  · exact op_add.or (op_add_str.or op_catA)
  · exact op_sub
  · exact op_mulX.or op_mulS
  · exact op_fdivW
  · exact op_mod
  · exact op_pow
theorem binR_of {op : BOp} {x y : W} {S : Sto} {Q : WQ} {vx vy : V} {QV : VK} (g : Gd K σ S Z H) (rx : RepW K H x vx) (ry : RepW K H y vy) (h : binW op x y fun z => Q z S) (p : PostE K σ S Z H Q QV) : binR K op vx vy H QV := by
  cases op
  · -- add
    cases x <;> cases y <;> first | exact h.elim | skip
    · cases rx; cases ry
      exact .inl ⟨_, _, rfl, rfl, p _ _ _ _ h g .refl (.int _)⟩
    · cases rx; cases ry
      exact .inr (.inl ⟨_, _, rfl, rfl, h.1, p _ _ _ _ h.2 g .refl (.str _)⟩)
    · cases rx with
      | tup q1 r1 =>
        cases ry with
        | tup q2 r2 =>
          refine .inr (.inr ⟨_, _, _, _, rfl, rfl, SqT.of q1, SqT.of q2, ?_, ?_⟩)
          · have h0 := h.1
            rw [r1.length, r2.length] at h0; exact h0
          · refine ⟨fun e => ?_, fun _ e => ?_, fun _ _ a ha => post_tup p g ha (r1.append r2) h.2⟩
            · subst e; cases r1
              exact p _ _ _ _ h.2 g .refl (.tup q2 r2)
            · subst e; cases r2
              refine p _ _ _ _ h.2 g .refl (.tup q1 ?_)
              rw [List.append_nil]; exact r1
  case mul =>
    cases x <;> cases y <;> first | exact h.elim | skip
    · cases rx; cases ry
      exact .inl ⟨_, _, rfl, rfl, h.1, p _ _ _ _ h.2 g .refl (.int _)⟩
    · cases rx; cases ry
      exact .inr ⟨_, _, rfl, rfl, h.1, h.2.1, p _ _ _ _ h.2.2 g .refl (.str _)⟩
  all_goals
    cases x <;> cases y <;> first | exact h.elim | skip
    cases rx; cases ry
  · exact ⟨_, _, rfl, rfl, p _ _ _ _ h g .refl (.int _)⟩
  · exact ⟨_, _, rfl, rfl, h.1, p _ _ _ _ h.2 g .refl (.int _)⟩
  · exact ⟨_, _, rfl, rfl, h.1, p _ _ _ _ h.2 g .refl (.int _)⟩
  · exact ⟨_, _, rfl, rfl, h.1, p _ _ _ _ h.2 g .refl (.int _)⟩
theorem snd_bin {a b : Expr} {o : Operator} {pos : Pos} {op : BOp} {ma mb : MTE} (hop : opB op o = true) (ha : PE X a (liftE X.K Wx ma)) (hb : PE X b (liftE X.K Wx mb)) :
    Snd X Wx (.BinOp a o b pos) (fun σ S Q E => ma σ S (fun x S1 => mb σ S1 (fun y S2 => binW op x y fun z => Q z S2) E) E) := by
  refine Snd.plain (pe_weak (pe_op (binR_ok hop) ha hb) fun Z H QV ⟨σ, S, Q, E, g, h, p, px⟩ => ?_) (fun _ => rfl) (fun ⟨_, _, _, z⟩ => by cases z)
  exact bin_lift (op := fun x y S Q => binW op x y fun z => Q z S) (fun x y S Q vx vy H QV g rx ry h p => binR_of g rx ry h p) g h p px
theorem snd_neg {a : Expr} {pos : Pos} {ma : MTE} (ha : PE X a (liftE X.K Wx ma)) :
    Snd X Wx (.UnaryOp .USub a pos) (fun σ S Q E => ma σ S (fun x S1 => match x with
    | .int i => Q (.int (-i)) S1
    | _ => False) E) := by
  refine Snd.plain (pe_weak (pe_un un_neg ha) fun Z H QV ⟨σ, S, Q, E, g, h, p, px⟩ => ?_) (fun _ => rfl) (fun ⟨_, _, _, z⟩ => by cases z)
  refine ⟨σ, S, _, E, g, h, fun w S' v H' q g' e r => ?_, px⟩
  cases w <;> first | exact q.elim | skip
  cases r
  exact ⟨_, rfl, p _ _ _ _ q g' e (.int _)⟩
theorem snd_var {x : Str} {i : Nat} {pos : Pos} (hN : X.N[i]? = some x) (hv : Vis X.env.scope x) (hd : plainNm x = true) :
    Snd X Wx (.Name x pos) (fun σ S Q _ => match getv σ i with
    | some w => Q w S
    | none => False) := by
  have hd' := hd
  simp only [plainNm, Bool.and_eq_true, Bool.not_eq_true'] at hd'
  refine Snd.plain (pe_weak (pe_var hN hv hd'.1 hd'.2) fun Z H QV ⟨σ, S, Q, E, g, h, p, px⟩ => ?_) (fun _ => rfl) (fun ⟨_, _, _, z⟩ => by cases z)
  unfold getv at h
  dsimp only at h
  cases e : σ[i]? with
  | none => rw [e] at h; exact h.elim
  | some o =>
    cases o with
    | none => rw [e] at h; exact h.elim
    | some w =>
      rw [e] at h
      obtain ⟨v, hz, r⟩ := g.sl i w e
      exact ⟨v, hz, p _ _ _ _ h g .refl r⟩
theorem pe_fold {e : Expr} : ∀ {i : Int}, foldC e = some i → PE X e (tC (.int i)) := by
  induction e using foldC.induct with
  | case1 j k pos => intro i h; simp only [foldC, Option.some.injEq] at h; subst h; exact pe_int
  | case2 a pos ih =>
    intro i h
    simp only [foldC] at h
    cases ea : foldC a with
    | none => rw [ea] at h; cases h
    | some j =>
      rw [ea] at h; cases h
      exact pe_weak (pe_un un_neg (ih ea)) fun Z H Q q => ⟨_, rfl, q⟩
  | case3 a b pos i j ea eb iha ihb => intro k h; simp only [foldC, ea, eb] at h; cases h; exact pe_weak (pe_op op_add (iha eb) (ihb ea)) fun Z H Q q => ⟨_, _, rfl, rfl, q⟩
  | case4 a b pos i j ea eb iha ihb => intro k h; simp only [foldC, ea, eb] at h; cases h; exact pe_weak (pe_op op_sub (iha eb) (ihb ea)) fun Z H Q q => ⟨_, _, rfl, rfl, q⟩
  | case5 a b pos i j ea eb hj iha ihb => intro k h; simp only [foldC, ea, eb, if_pos hj] at h; cases h; exact pe_weak (pe_op op_mul (iha eb) (ihb ea)) fun Z H Q q => ⟨_, _, rfl, rfl, .inl (by omega), q⟩
  | case6 a b pos i j ea eb hj iha ihb => intro k h; simp only [foldC, ea, eb, if_neg hj] at h; cases h
  | case7 a b pos i j ea eb hj iha ihb => intro k h; simp only [foldC, ea, eb, if_pos hj] at h; cases h; exact pe_weak (pe_op op_pow (iha eb) (ihb ea)) fun Z H Q q => ⟨_, _, rfl, rfl, ⟨hj.1, by omega, hj.2.2⟩, q⟩
  | case8 a b pos i j ea eb hj iha ihb => intro k h; simp only [foldC, ea, eb, if_neg hj] at h; cases h
  | case9 a op b pos i j ea eb h1 h2 h3 h4 iha ihb => intro k h; cases op <;> first | (simp only [foldC, ea, eb] at h; cases h; done) | (exact absurd rfl h1) | (exact absurd rfl h2) | (exact absurd rfl h3) | (exact absurd rfl h4)
  | case10 a op b pos ea iha ihb => intro k h; simp only [foldC] at h; cases h
  | case11 e h1 h2 h3 => intro i h; simp only [foldC] at h; cases h
theorem snd_cst {e : Expr} {w : W} (hc : cstB w e = true) : Snd X Wx e (fun _ S Q _ => Q w S) := by
  have int : ∀ {e : Expr} {i : Int}, foldC e = some i → Snd X Wx e (fun _ S Q _ => Q (.int i) S) := fun {e i} h =>
    Snd.plain (pe_weak (pe_fold h) fun Z H QV ⟨σ, S, Q, E, g, q, p, px⟩ => p _ _ _ _ q g .refl (.int _)) (by
      intro wh; cases e <;> first | rfl | (simp only [foldC] at h; cases h; done) | (rename_i op _ _; cases op <;> first | rfl | (simp [foldC] at h; done))) (by
      rintro ⟨op, vs, p, rfl⟩; simp only [foldC] at h; cases h)
  cases w with
  | int i => exact int (by cases e <;> first | simpa [cstB] using hc | (rename_i c _ _; cases c <;> first | simpa [cstB] using hc | (simp [cstB] at hc)))
  | non =>
    cases e <;> first | (simp [cstB] at hc; done) | skip
    rename_i c k pos
    cases c <;> first | (simp [cstB] at hc; done) | skip
    exact Snd.plain (pe_weak pe_non fun Z H QV ⟨σ, S, Q, E, g, q, p, px⟩ => p _ _ _ _ q g .refl .non) (fun _ => rfl) (fun ⟨_, _, _, z⟩ => by cases z)
  | bl b =>
    cases e <;> first | (simp [cstB] at hc; done) | skip
    rename_i c k pos
    cases c <;> first | (simp [cstB] at hc; done) | skip
    simp only [cstB, beq_iff_eq] at hc; subst hc
    exact Snd.plain (pe_weak pe_bl fun Z H QV ⟨σ, S, Q, E, g, q, p, px⟩ => p _ _ _ _ q g .refl (.bl _)) (fun _ => rfl) (fun ⟨_, _, _, z⟩ => by cases z)
  | str x =>
    cases e <;> first | (simp [cstB] at hc; done) | skip
    rename_i c k pos
    cases c <;> first | (simp [cstB] at hc; done) | skip
    simp only [cstB, decide_eq_true_eq] at hc; subst hc
    exact Snd.plain (pe_weak pe_str fun Z H QV ⟨σ, S, Q, E, g, q, p, px⟩ => p _ _ _ _ q g .refl (.str _)) (fun _ => rfl) (fun ⟨_, _, _, z⟩ => by cases z)
  | ref a => cases e <;> first | (simp [cstB] at hc; done) | (rename_i c k pos; cases c <;> (simp [cstB] at hc; done))
  | ty a => cases e <;> first | (simp [cstB] at hc; done) | (rename_i c k pos; cases c <;> (simp [cstB] at hc; done))
  | tup a => cases e <;> first | (simp [cstB] at hc; done) | (rename_i c k pos; cases c <;> (simp [cstB] at hc; done))
  | rol a => cases e <;> first | (simp [cstB] at hc; done) | (rename_i c k pos; cases c <;> (simp [cstB] at hc; done))
end
section
variable {X : Cx} {Wx : WX} {K : PySem.W.Frag} {σ : Envr} {S S1 : Sto} {Z : L2.St} {H : Hp}
variable {a b c : Expr} {pos : Pos} {ma mb mc : MTE}
def cmpR (K : PySem.W.Frag) : COp → R2
  | .eq => rEqD K
  | .ne => rNeD K
  | .lt => rI0 fun i j => .bl (decide (i < j))
  | .le => rI0 fun i j => .bl (decide (i ≤ j))
  | .gt => rI0 fun i j => .bl (decide (j < i))
  | .ge => rI0 fun i j => .bl (decide (j ≤ i))
theorem cmpR_ok {op : COp} {o : CmpOp} (h : copB op o = true) (hu : X.A.units + 64 < cLine) : OpR X (compareOp o) (cmpR X.K op) := by
  cases op <;> cases o <;> first | exact absurd h (by decide) | skip
  · exact op_lt
  · exact op_le
  · exact op_gt
  · exact op_ge
  · exact op_eqD hu
  · exact op_neD hu
theorem cmp_mark {op : COp} {o : CmpOp} (h : copB op o = true) : behindInMarks o b = false := by
  cases op <;> cases o <;> first | exact absurd h (by decide) | exact nomark _
theorem cmpR_of {op : COp} {x y : W} {S : Sto} {Q : Bool → Sto → Prop} {vx vy : V} {QV : VK} (rx : RepW K H x vx) (ry : RepW K H y vy) (h : cmpW op x y fun z => Q z S) (p : ∀ b, Q b S → QV (.bl b) H) : cmpR K op vx vy H QV := by
  cases op
  case eq => obtain ⟨h1, h2, h3⟩ := h; exact ⟨_, _, rx.dp h1.1, ry.dp h2.1, h1.2, h2.2, p _ h3⟩
  case ne => obtain ⟨h1, h2, h3⟩ := h; exact ⟨_, _, rx.dp h1.1, ry.dp h2.1, h1.2, h2.2, p _ h3⟩
  all_goals
    cases x <;> cases y <;> first | exact h.elim | skip
    cases rx; cases ry
    exact ⟨_, _, rfl, rfl, p _ h⟩
theorem snd_cmp {o : CmpOp} {op : COp} (hop : copB op o = true) (hu : X.A.units + 64 < cLine) (ha : PE X a (liftE X.K Wx ma)) (hb : PE X b (liftE X.K Wx mb)) :
    Snd X Wx (.Compare a [o] [b] pos) (fun σ S Q E => ma σ S (fun x S1 => mb σ S1 (fun y S2 => cmpW op x y fun z => Q (.bl z) S2) E) E) := by
  refine Snd.cmp (pe_cmpR (cmpR_ok hop hu) ha hb (cmp_mark hop)) (pt_cmpR (cmpR_ok hop hu) ha hb (cmp_mark hop)) (fun Z H QV ⟨σ, S, Q, E, g, h, p, px⟩ => ?_) (fun ⟨_, _, _, z⟩ => by cases z)
  exact bin_lift (op := fun x y S Q => cmpW op x y fun z => Q (.bl z) S) (fun x y S Q vx vy H QV g rx ry h p => cmpR_of (Q := fun z S => Q (.bl z) S) rx ry h fun b q => p _ _ _ _ q g .refl (.bl _)) g h p px
theorem chain_mark {o o' : CmpOp} {op op' : COp} (h : copB op o = true) (h' : copB op' o' = true) : lastMarks [o, o'] [b, c] = false := by
  show behindInMarks o' c = false
  exact cmp_mark h'
theorem snd_chn {o o' : CmpOp} {op op' : COp} (hop : copB op o = true) (hop' : copB op' o' = true) (hu : X.A.units + 64 < cLine) (ha : PE X a (liftE X.K Wx ma)) (hb : PE X b (liftE X.K Wx mb)) (hc : PE X c (liftE X.K Wx mc)) :
    Snd X Wx (.Compare a [o, o'] [b, c] pos) (fun σ S Q E => ma σ S (fun x S1 => mb σ S1 (fun y S2 => cmpW op x y fun z =>
      if z = true then mc σ S2 (fun u S3 => cmpW op' y u fun z => Q (.bl z) S3) E else Q (.bl false) S2) E) E) := by
  refine Snd.cmp (pe_chain (cmpR_ok hop hu) (cmpR_ok hop' hu) ha hb hc (chain_mark hop hop')) (pt_chain (cmpR_ok hop hu) (cmpR_ok hop' hu) ha hb hc (chain_mark hop hop')) (fun Z H QV ⟨σ, S, Q, E, g, h, p, px⟩ => ?_) (fun ⟨_, _, _, z⟩ => by cases z)
  refine ⟨σ, S, _, E, g, h, fun x S1 vx H1 h1 g1 e1 r1 => ?_, px⟩
  refine ⟨σ, S1, _, E, g1, h1, fun y S2 vy H2 h2 g2 e2 r2 => ?_, px.next e1⟩
  refine cmpR_of (Q := fun z S2 => if z = true then mc σ S2 (fun u S3 => cmpW op' y u fun z => Q (.bl z) S3) E else Q (.bl false) S2) (e2.rep g1.st r1) r2 h2 fun z q => ⟨z, rfl, ?_⟩
  cases z with
  | false => exact iteF (p _ _ _ _ (by simpa using q) g2 (e1.trans e2) (.bl _))
  | true =>
    have q' : mc σ S2 (fun u S3 => cmpW op' y u fun z => Q (.bl z) S3) E := by simpa using q
    refine iteT ⟨σ, S2, _, E, g2, q', fun u S3 vu H3 h3 g3 e3 r3 => ?_, px.next (e1.trans e2)⟩
    exact cmpR_of (Q := fun z S => Q (.bl z) S) (e3.rep g2.st r2) r3 h3 fun b q => p _ _ _ _ q g3 ((e1.trans e2).trans e3) (.bl _)
theorem isNon_rep {w : W} {v : V} (r : RepW K H w v) : decide (v = .non) = isNon w := by
  cases r <;> rfl
theorem snd_isN {o : CmpOp} {k : Bool} {j : Nat} {p2 : Pos} (hk : (match o with | .Is => k | .IsNot => !k | _ => false) = true) (ha : PE X a (liftE X.K Wx ma)) :
    Snd X Wx (.Compare a [o] [.Constant .none j p2] pos) (fun σ S Q E => ma σ S (fun x S1 => Q (.bl (isNon x == k)) S1) E) := by
  cases o <;> first | (simp at hk; done) | skip
  · have hk' : k = true := hk
    subst hk'
    refine Snd.cmp (pe_cmp (pc_isN ha)) (pt_cmp (pc_isN ha)) (fun Z H QV ⟨σ, S, Q, E, g, h, p, px⟩ => ?_) (fun ⟨_, _, _, z⟩ => by cases z)
    refine ⟨σ, S, _, E, g, h, fun x S1 vx H1 h1 g1 e1 r1 => ?_, px⟩
    dsimp only
    rw [isNon_rep r1]
    refine p _ _ _ _ ?_ g1 e1 (.bl _)
    cases e : isNon x <;> simpa [e] using h1
  · have hk' : k = false := by simpa using hk
    subst hk'
    refine Snd.cmp (pe_cmp (pc_notN ha)) (pt_cmp (pc_notN ha)) (fun Z H QV ⟨σ, S, Q, E, g, h, p, px⟩ => ?_) (fun ⟨_, _, _, z⟩ => by cases z)
    refine ⟨σ, S, _, E, g, h, fun x S1 vx H1 h1 g1 e1 r1 => ?_, px⟩
    dsimp only
    rw [isNon_rep r1]
    refine p _ _ _ _ ?_ g1 e1 (.bl _)
    cases e : isNon x <;> simpa [e] using h1
theorem snd_isB {o : CmpOp} {k d : Bool} {j : Nat} {p2 : Pos} (hk : (match o with | .Is => k | .IsNot => !k | _ => false) = true) (ha : PE X a (liftE X.K Wx ma)) :
    Snd X Wx (.Compare a [o] [.Constant (.bool d) j p2] pos) (fun σ S Q E => ma σ S (fun x S1 => asBl x fun c => Q (.bl ((c == d) == k)) S1) E) := by
  cases o <;> first | (simp at hk; done) | skip
  · have hk' : k = true := hk
    subst hk'
    refine Snd.cmp (pe_cmpR op_is_bl ha pe_bl (nomark _)) (pt_cmpR op_is_bl ha pe_bl (nomark _)) (fun Z H QV ⟨σ, S, Q, E, g, h, p, px⟩ => ?_) (fun ⟨_, _, _, z⟩ => by cases z)
    refine ⟨σ, S, _, E, g, h, fun x S1 vx H1 h1 g1 e1 r1 => ?_, px⟩
    cases x <;> first | exact h1.elim | skip
    cases r1
    refine ⟨_, _, rfl, rfl, p _ _ _ _ ?_ g1 e1 (.bl _)⟩
    rename_i z
    cases z <;> cases d <;> exact h1
  · have hk' : k = false := by simpa using hk
    subst hk'
    refine Snd.cmp (pe_cmpR op_isnot_bl ha pe_bl (nomark _)) (pt_cmpR op_isnot_bl ha pe_bl (nomark _)) (fun Z H QV ⟨σ, S, Q, E, g, h, p, px⟩ => ?_) (fun ⟨_, _, _, z⟩ => by cases z)
    refine ⟨σ, S, _, E, g, h, fun x S1 vx H1 h1 g1 e1 r1 => ?_, px⟩
    cases x <;> first | exact h1.elim | skip
    cases r1
    refine ⟨_, _, rfl, rfl, p _ _ _ _ ?_ g1 e1 (.bl _)⟩
    rename_i z
    cases z <;> cases d <;> exact h1
theorem flat_rep {w : W} {v : V} (r : RepW K H w v) (h : w.flat = true) : flatV v = true := by
  cases r <;> first | rfl | (simp [W.flat] at h)
theorem flEq_rep {w u : W} {v x : V} (r : RepW K H w v) (q : RepW K H u x) (h : w.flat = true) (h' : u.flat = true) : flEq w u = eqV v x := by
  cases r <;> cases q <;> first | rfl | (simp [W.flat] at h; done) | (simp [W.flat] at h'; done)
theorem flats_rep : ∀ {ws : List W} {vs : List V}, RepWs K H ws vs → ws.all W.flat = true → vs.all flatV = true
  | _, _, .nil, _ => rfl
  | _, _, .cons r t, h => by
    simp only [List.all_cons, Bool.and_eq_true] at h ⊢
    exact ⟨flat_rep r h.1, flats_rep t h.2⟩
theorem any_rep {x : W} {vx : V} (rx : RepW K H x vx) (hx : x.flat = true) : ∀ {ws : List W} {vs : List V}, RepWs K H ws vs → ws.all W.flat = true → (ws.any fun z => flEq z x) = inV vx vs
  | _, _, .nil, _ => rfl
  | _, _, .cons r t, h => by
    simp only [List.all_cons, Bool.and_eq_true] at h
    have e := any_rep rx hx t h.2
    unfold inV at e ⊢
    rw [List.any_cons, List.any_cons, e, flEq_rep r rx h.1 hx]
theorem inWs_rep {x : W} {vx : V} {ws : List W} {vs : List V} {Q : Bool → Prop} (rx : RepW K H x vx) (r : RepWs K H ws vs) (h : inWs x ws Q) : flatV vx = true ∧ vs.all flatV = true ∧ Q (inV vx vs) := by
  obtain ⟨h1, h2, h3⟩ := h
  refine ⟨flat_rep rx h1, flats_rep r h2, ?_⟩
  rw [any_rep rx h1 r h2] at h3; exact h3
theorem inR_of {x y : W} {vx vy : V} {Q : Bool → Sto → Prop} {k : Bool} {QV : VK} (hn : ∀ {a fz kvs}, y = .ref a → S a ≠ some (.dk fz kvs)) (hn2 : ∀ {a fz kvs}, y = .ref a → S a ≠ some (.dt fz kvs)) (hn3 : ∀ {a kvs}, y = .ref a → S a ≠ some (.dn kvs)) (hs : ∀ z, y ≠ .str z) (g : Gd K σ S Z H) (rx : RepW K H x vx) (ry : RepW K H y vy) (h : inW x y (fun z => Q z S) S) (p : ∀ b, Q b S → QV (.bl (if k then !b else b)) H) : rIn K k vx vy H QV := by
  have go : ∀ {ws : List W} {vs : List V}, RepWs K H ws vs → inWs x ws (fun z => Q z S) → flatV vx = true ∧ vs.all flatV = true ∧ QV (.bl (if k then !inV vx vs else inV vx vs)) H := fun r q => by
    obtain ⟨h1, h2, h3⟩ := inWs_rep rx r q
    exact ⟨h1, h2, p _ h3⟩
  cases y <;> first | exact h.elim | skip
  · exact (hs _ rfl).elim
  · rename_i ad
    cases ry
    unfold inW at h
    dsimp only at h
    cases e : S ad with
    | none => rw [e] at h; exact h.elim
    | some o =>
      cases o with
      | lst ws =>
        rw [e] at h
        obtain ⟨vs, e1, r⟩ := g.st _ _ e
        exact ⟨_, _, rfl, .inl (SqL.of e1), go r h⟩
      | ins C fs => rw [e] at h; exact h.elim
      | dk fz kvs => exact (hn rfl e).elim
      | dt fz kvs => exact (hn2 rfl e).elim
      | dn kvs => exact (hn3 rfl e).elim
  · cases ry with
    | tup q r => exact ⟨_, _, rfl, .inr (SqT.of q), go r h⟩
  · cases ry with
    | rol q r => exact ⟨_, _, rfl, .inl q.sql, go r h⟩
theorem inD_of {x y : W} {vx vy : V} {Q : Bool → Sto → Prop} (g : Gd K σ S Z H) (rx : RepW K H x vx) (ry : RepW K H y vy) (h : inW x y (fun z => Q z S) S) :
    ((∀ {a fz kvs}, y = .ref a → S a ≠ some (.dk fz kvs)) ∧ (∀ {a fz kvs}, y = .ref a → S a ≠ some (.dt fz kvs)) ∧ (∀ {a kvs}, y = .ref a → S a ≠ some (.dn kvs)) ∧ ∀ z, y ≠ .str z) ∨
    (∃ a xs vs k, vy = .ref a ∧ NdAt H a xs vs ∧ KeyOf H k vx ∧ Q (valV vs k).isSome S) ∨ (∃ a kvs, vy = .ref a ∧ vx = .non ∧ Rd H a (.dK kvs) ∧ Q false S) ∨
    (∃ a o, vy = .ref a ∧ DGet H a vx o ∧ Q o.isSome S) ∨ ∃ c z, vx = .str ⟨#[c]⟩ ∧ vy = .str z ∧ Q (decide (c ∈ z.cps.toList)) S := by
  cases y with
  | ref a =>
    cases ry
    cases e : S a with
    | none => exact .inl ⟨(fun z => by cases z; rw [e]; exact fun z => by cases z), (fun z => by cases z; rw [e]; exact fun z => by cases z), (fun z => by cases z; rw [e]; exact fun z => by cases z), (fun _ z => by cases z)⟩
    | some o =>
      cases o with
      | lst ws => exact .inl ⟨(fun z => by cases z; rw [e]; exact fun z => by cases z), (fun z => by cases z; rw [e]; exact fun z => by cases z), (fun z => by cases z; rw [e]; exact fun z => by cases z), (fun _ z => by cases z)⟩
      | ins C fs => exact .inl ⟨(fun z => by cases z; rw [e]; exact fun z => by cases z), (fun z => by cases z; rw [e]; exact fun z => by cases z), (fun z => by cases z; rw [e]; exact fun z => by cases z), (fun _ z => by cases z)⟩
      | dk fz kvs =>
        unfold inW at h
        dsimp only at h
        rw [e] at h
        dsimp only at h
        by_cases hx : x = .non
        · subst hx
          cases rx
          obtain ⟨vs, ez, rf⟩ := g.st _ _ e
          exact .inr (.inr (.inl ⟨a, vs, rfl, rfl, ez.rd, h⟩))
        have h' : hasD (keyW x) kvs (fun z => Q z S) := by cases x <;> first | exact h | exact (hx rfl).elim
        unfold hasD at h'
        split at h'
        · rename_i k hk
          obtain ⟨vs, ez, rf⟩ := g.st _ _ e
          refine .inr (.inr (.inr (.inl ⟨a, valV vs k, rfl, .inl ⟨vs, k, ez.rd, keyW_rep rx hk, rfl⟩, ?_⟩)))
          rw [has_of rf]; exact h'
        · exact h'.elim
      | dt fz kvs =>
        unfold inW at h
        dsimp only at h
        rw [e] at h
        dsimp only at h
        unfold hasD at h
        split at h
        · rename_i k hk
          obtain ⟨vs, ez, rf⟩ := g.st _ _ e
          obtain ⟨b, e2, e3⟩ := tkeyW_rep rx hk
          refine .inr (.inr (.inr (.inl ⟨a, valV vs k, rfl, .inr ⟨vs, k, b, ez.rd, e2, e3, rfl⟩, ?_⟩)))
          rw [has_of rf]; exact h
        · exact h.elim
      | dn kvs =>
        unfold inW at h
        dsimp only at h
        rw [e] at h
        dsimp only at h
        unfold hasD at h
        split at h
        · rename_i k hk
          obtain ⟨xs, vs, n, rf⟩ := g.st _ _ e
          refine .inr (.inl ⟨a, xs, vs, k, rfl, n, nkW_rep rx hk, ?_⟩)
          rw [has_of rf]; exact h
        · exact h.elim
  | str z =>
    cases ry
    cases x <;> first | exact h.elim | skip
    cases rx
    obtain ⟨d, rfl, q⟩ := h
    exact .inr (.inr (.inr (.inr ⟨d, z, rfl, rfl, q⟩)))
  | _ => exact .inl ⟨fun z => (by cases z), fun z => (by cases z), fun z => (by cases z), fun _ z => by cases z⟩
theorem snd_inn {o : CmpOp} {k : Bool} (hu : X.A.units + 64 < cLine) (hk : (match o with | .In => k | .NotIn => !k | _ => false) = true) (hm : noMark o b = true) (ha : PE X a (liftE X.K Wx ma)) (hb : PE X b (liftE X.K Wx mb)) :
    Snd X Wx (.Compare a [o] [b] pos) (fun σ S Q E => ma σ S (fun x S1 => mb σ S1 (fun y S2 => inW x y (fun z => Q (.bl (z == k)) S2) S2) E) E) := by
  have hm' : behindInMarks o b = false := by simpa [noMark] using hm
  cases o <;> first | (simp at hk; done) | skip
  · have hk' : k = true := hk
    subst hk'
    have op := op_in_seq.or ((op_inNd (by omega)).or (op_inNo.or ((op_inD (by omega)).or (show OpR X (compareOp .In) rSgn from op_in_sign))))
    refine Snd.cmp (pe_cmpR op ha hb hm') (pt_cmpR op ha hb hm') (fun Z H QV ⟨σ, S, Q, E, g, h, p, px⟩ => ?_) (fun ⟨_, _, _, z⟩ => by cases z)
    refine bin_lift (op := fun x y S Q => inW x y (fun z => Q (.bl (z == true)) S) S) (fun x y S Q vx vy H QV g rx ry h p => ?_) g h p px
    have h' : inW x y (fun z => Q (.bl z) S) S := by
      have e : (fun z : Bool => Q (.bl (z == true)) S) = fun z => Q (.bl z) S := funext fun z => by cases z <;> rfl
      rw [e] at h; exact h
    rcases inD_of (Q := fun z S => Q (.bl z) S) g rx ry h' with ⟨n1, n2, n4, n3⟩ | ⟨a, xs, vs, k, e, n, ky, q⟩ | ⟨a, kvs, e, ey, rd, q⟩ | ⟨a, o, e, dg, q⟩ | ⟨c, z, e1, e2, q⟩
    · exact .inl (inR_of (k := false) (Q := fun z S => Q (.bl z) S) n1 n2 n4 n3 g rx ry h' fun b q => p _ _ _ _ q g .refl (.bl _))
    · exact .inr (.inl ⟨a, xs, vs, k, e, n, ky, p _ _ _ _ q g .refl (.bl _)⟩)
    · exact .inr (.inr (.inl ⟨a, kvs, e, ey, rd, p _ _ _ _ q g .refl (.bl _)⟩))
    · exact .inr (.inr (.inr (.inl ⟨a, o, e, dg, p _ _ _ _ q g .refl (.bl _)⟩)))
    · exact .inr (.inr (.inr (.inr ⟨c, z, e1, e2, p _ _ _ _ q g .refl (.bl _)⟩)))
  · have hk' : k = false := by simpa using hk
    subst hk'
    have op := op_notIn_seq.or ((op_notInNd (by omega)).or (op_notInNo.or ((op_notInD (by omega)).or (show OpR X (compareOp .NotIn) rNSgn from op_notIn_sign))))
    refine Snd.cmp (pe_cmpR op ha hb hm') (pt_cmpR op ha hb hm') (fun Z H QV ⟨σ, S, Q, E, g, h, p, px⟩ => ?_) (fun ⟨_, _, _, z⟩ => by cases z)
    refine bin_lift (op := fun x y S Q => inW x y (fun z => Q (.bl (z == false)) S) S) (fun x y S Q vx vy H QV g rx ry h p => ?_) g h p px
    have h' : inW x y (fun z => Q (.bl (!z)) S) S := by
      have e : (fun z : Bool => Q (.bl (z == false)) S) = fun z => Q (.bl (!z)) S := funext fun z => by cases z <;> rfl
      rw [e] at h; exact h
    rcases inD_of (Q := fun z S => Q (.bl (!z)) S) g rx ry h' with ⟨n1, n2, n4, n3⟩ | ⟨a, xs, vs, k, e, n, ky, q⟩ | ⟨a, kvs, e, ey, rd, q⟩ | ⟨a, o, e, dg, q⟩ | ⟨c, z, e1, e2, q⟩
    · exact .inl (inR_of (k := true) (Q := fun z S => Q (.bl (!z)) S) n1 n2 n4 n3 g rx ry h' fun b q => p _ _ _ _ q g .refl (.bl _))
    · exact .inr (.inl ⟨a, xs, vs, k, e, n, ky, p _ _ _ _ q g .refl (.bl _)⟩)
    · exact .inr (.inr (.inl ⟨a, kvs, e, ey, rd, p _ _ _ _ q g .refl (.bl _)⟩))
    · exact .inr (.inr (.inr (.inl ⟨a, o, e, dg, p _ _ _ _ q g .refl (.bl _)⟩)))
    · exact .inr (.inr (.inr (.inr ⟨c, z, e1, e2, p _ _ _ _ q g .refl (.bl _)⟩)))
theorem snd_and {y : Expr} {rest : List Expr} {p2 : Pos} (ha : Snd X Wx a ma) (hv : PE X (.BoolOp .And (y :: rest) pos) (liftE X.K Wx mb)) (hw : PW X (.BoolOp .And (y :: rest) pos) (liftB X.K Wx mb)) :
    Snd X Wx (.BoolOp .And (a :: y :: rest) pos) (fun σ S Q E => ma σ S (fun x S1 => asBl x fun c => if c = true then mb σ S1 Q E else Q (.bl false) S1) E) := by
  have w : PW X (.BoolOp .And (a :: y :: rest) pos) (liftB X.K Wx fun σ S Q E => ma σ S (fun x S1 => asBl x fun c => if c = true then mb σ S1 Q E else Q (.bl false) S1) E) := by
    refine pw_weak (pw_and ha.t hw) fun Z H QB ⟨σ, S, Q, E, g, h, p, px⟩ => ?_
    refine ⟨σ, S, fun c S1 => if c = true then mb σ S1 (fun w S' => asBl w fun b => Q b S') E else Q false S1, E, g, h, fun c S1 H1 h1 g1 e1 => ?_, px⟩
    cases c with
    | false => exact iteF (p _ _ _ (by simpa using h1) g1 e1)
    | true => exact iteT ⟨σ, S1, Q, E, g1, by simpa using h1, fun b S' H' q g' e' => p b S' H' q g' (e1.trans e'), px.next e1⟩
  refine ⟨pe_weak (pe_and ha.v hv) fun Z H QV ⟨σ, S, Q, E, g, h, p, px⟩ => ?_, w.pt, fun _ => w⟩
  refine ⟨σ, S, _, E, g, h, fun x S1 vx H1 h1 g1 e1 r1 => ?_, px⟩
  cases x <;> first | exact h1.elim | skip
  rename_i c
  cases r1
  refine ⟨c, rfl, ?_⟩
  cases c with
  | false => exact iteF (p _ _ _ _ h1 g1 e1 (.bl _))
  | true => exact iteT ⟨σ, S1, Q, E, g1, h1, fun w S' v H' q g' e' r' => p w S' v H' q g' (e1.trans e') r', px.next e1⟩
theorem snd_or {y : Expr} {rest : List Expr} {p2 : Pos} (ha : Snd X Wx a ma) (hv : PE X (.BoolOp .Or (y :: rest) pos) (liftE X.K Wx mb)) (hw : PW X (.BoolOp .Or (y :: rest) pos) (liftB X.K Wx mb)) :
    Snd X Wx (.BoolOp .Or (a :: y :: rest) pos) (fun σ S Q E => ma σ S (fun x S1 => asBl x fun c => if c = true then Q (.bl true) S1 else mb σ S1 Q E) E) := by
  have w : PW X (.BoolOp .Or (a :: y :: rest) pos) (liftB X.K Wx fun σ S Q E => ma σ S (fun x S1 => asBl x fun c => if c = true then Q (.bl true) S1 else mb σ S1 Q E) E) := by
    refine pw_weak (pw_or ha.t hw) fun Z H QB ⟨σ, S, Q, E, g, h, p, px⟩ => ?_
    refine ⟨σ, S, fun c S1 => if c = true then Q true S1 else mb σ S1 (fun w S' => asBl w fun b => Q b S') E, E, g, h, fun c S1 H1 h1 g1 e1 => ?_, px⟩
    cases c with
    | true => exact iteT (p _ _ _ (by simpa using h1) g1 e1)
    | false => exact iteF ⟨σ, S1, Q, E, g1, by simpa using h1, fun b S' H' q g' e' => p b S' H' q g' (e1.trans e'), px.next e1⟩
  refine ⟨pe_weak (pe_or ha.v hv) fun Z H QV ⟨σ, S, Q, E, g, h, p, px⟩ => ?_, w.pt, fun _ => w⟩
  refine ⟨σ, S, _, E, g, h, fun x S1 vx H1 h1 g1 e1 r1 => ?_, px⟩
  cases x <;> first | exact h1.elim | skip
  rename_i c
  cases r1
  refine ⟨c, rfl, ?_⟩
  cases c with
  | true => exact iteT (p _ _ _ _ h1 g1 e1 (.bl _))
  | false => exact iteF ⟨σ, S1, Q, E, g1, h1, fun w S' v H' q g' e' r' => p w S' v H' q g' (e1.trans e') r', px.next e1⟩
theorem Snd.one {op : BoolOp} (h : Snd X Wx a ma) : PE X (.BoolOp op [a] pos) (liftE X.K Wx ma) ∧ PW X (.BoolOp op [a] pos) (liftB X.K Wx ma) := by
  refine ⟨pe_one h.v, ?_⟩
  cases op with
  | And => exact pw_and1 h.t
  | Or => exact pw_or1 h.t
theorem snd_not (ha : Snd X Wx a ma) : Snd X Wx (.UnaryOp .Not a pos) (fun σ S Q E => ma σ S (fun x S1 => asBl x fun c => Q (.bl (!c)) S1) E) := by
  refine ⟨pe_weak (pe_not ha.v) fun Z H QV ⟨σ, S, Q, E, g, h, p, px⟩ => ?_, pt_weak (pt_not ha.t) fun Z H QB ⟨σ, S, Q, E, g, h, p, px⟩ => ?_, fun ⟨_, _, _, z⟩ => by cases z⟩
  · refine ⟨σ, S, _, E, g, h, fun x S1 vx H1 h1 g1 e1 r1 => ?_, px⟩
    cases x <;> first | exact h1.elim | skip
    cases r1
    exact ⟨_, rfl, p _ _ _ _ h1 g1 e1 (.bl _)⟩
  · exact ⟨σ, S, fun c S1 => Q (!c) S1, E, g, h, fun c S1 H1 h1 g1 e1 => p _ _ _ h1 g1 e1, px⟩
theorem pt_ite {tc ta tb : TT} (hc : PT X c tc) (ha : PT X a ta) (hb : PT X b tb) : PT X (.IfExp c a b pos) (fun Z H Q => tc Z H fun k H1 => if k = true then ta Z H1 Q else tb Z H1 Q) := by
  refine ⟨fun pins s σ H Q I h => ?_⟩
  refine isTrue_IfExp (thn (hc.run pins s σ H _ I h) fun d s1 ⟨H1, I1, q1⟩ => ?_)
  cases d with
  | true => exact ha.run pins s1 σ H1 Q I1 q1
  | false => exact hb.run pins s1 σ H1 Q I1 q1
theorem snd_ite (hc : Snd X Wx c mc) (ha : Snd X Wx a ma) (hb : Snd X Wx b mb) : Snd X Wx (.IfExp c a b pos) (fun σ S Q E => mc σ S (fun x S1 => asBl x fun k => if k = true then ma σ S1 Q E else mb σ S1 Q E) E) := by
  refine ⟨pe_weak (pe_ifExp hc.t ha.v hb.v) fun Z H QV ⟨σ, S, Q, E, g, h, p, px⟩ => ?_, pt_weak (pt_ite hc.t ha.t hb.t) fun Z H QB ⟨σ, S, Q, E, g, h, p, px⟩ => ?_, fun ⟨_, _, _, z⟩ => by cases z⟩
  · refine ⟨σ, S, fun k S1 => if k = true then ma σ S1 Q E else mb σ S1 Q E, E, g, h, fun k S1 H1 h1 g1 e1 => ?_, px⟩
    cases k with
    | true => exact iteT ⟨σ, S1, Q, E, g1, by simpa using h1, fun w S' v H' q g' e' r' => p w S' v H' q g' (e1.trans e') r', px.next e1⟩
    | false => exact iteF ⟨σ, S1, Q, E, g1, by simpa using h1, fun w S' v H' q g' e' r' => p w S' v H' q g' (e1.trans e') r', px.next e1⟩
  · refine ⟨σ, S, fun k S1 => if k = true then ma σ S1 (fun w S' => asBl w fun b => Q b S') E else mb σ S1 (fun w S' => asBl w fun b => Q b S') E, E, g, h, fun k S1 H1 h1 g1 e1 => ?_, px⟩
    cases k with
    | true => exact iteT ⟨σ, S1, Q, E, g1, by simpa using h1, fun b S' H' q g' e' => p b S' H' q g' (e1.trans e'), px.next e1⟩
    | false => exact iteF ⟨σ, S1, Q, E, g1, by simpa using h1, fun b S' H' q g' e' => p b S' H' q g' (e1.trans e'), px.next e1⟩
end
section
variable {X : Cx} {Wx : WX} {K : PySem.W.Frag} {σ : Envr} {S S1 : Sto} {Z : L2.St} {H : Hp}
variable {a b c : Expr} {pos : Pos} {ma mb mc : MTE} {es : List Expr} {mes : Envr → Sto → (List W → Sto → Prop) → XQ → Prop}
theorem star_cons (h : notStar a = true) : starEach (a :: es) X.env = (false, eval a X.env) :: starEach es X.env := by
  cases a <;> first | rfl | (simp [notStar] at h)
theorem pa_nilL : PA X [] (liftA X.K Wx fun _ S Q _ => Q [] S) := pa_weak pa_nil fun Z H Q ⟨σ, S, QW, E, g, h, p, px⟩ => p _ _ _ _ h g .refl .nil
theorem pa_consL (hn : notStar a = true) (ha : PE X a (liftE X.K Wx ma)) (hr : PA X es (liftA X.K Wx mes)) :
    PA X (a :: es) (liftA X.K Wx fun σ S Q E => ma σ S (fun w S1 => mes σ S1 (fun ws S2 => Q (w :: ws) S2) E) E) := by
  refine pa_weak (pa_cons ha hr (star_cons hn)) fun Z H QV ⟨σ, S, Q, E, g, h, p, px⟩ => ?_
  refine ⟨σ, S, _, E, g, h, fun x S1 vx H1 h1 g1 e1 r1 => ?_, px⟩
  exact ⟨σ, S1, fun ws S2 => Q (x :: ws) S2, E, g1, h1, fun ws S2 vs H2 q g2 e2 r2 => p _ _ _ _ q g2 (e1.trans e2) (.cons (e2.rep g1.st r1) r2), px.next e1⟩
theorem backTo_any {pos : Pos} {l : List (Bool × Sem Value)} : (backTo pos l).any (·.1) = l.any (·.1) := by
  unfold backTo
  induction l with
  | nil => rfl
  | cons x r ih => simp only [List.map_cons, List.any_cons, ih]
def noStars (es : List Expr) : Bool := es.all notStar
theorem star_any : ∀ {es : List Expr}, noStars es = true → (starEach es X.env).any (·.1) = false
  | [], _ => rfl
  | a :: es, h => by
    simp only [noStars, List.all_cons, Bool.and_eq_true] at h
    rw [star_cons h.1, List.any_cons, star_any (es := es) h.2]; rfl
theorem snd_tup {k : Nat} (h : PA X es (liftA X.K Wx mes)) : Snd X Wx (.Tuple es k pos) (fun σ S Q E => mes σ S (fun ws S1 => ws.length ≤ sizeLine ∧ Q (.tup ws) S1) E) := by
  refine Snd.plain (pe_weak (pe_tup h) fun Z H QV ⟨σ, S, Q, E, g, h, p, px⟩ => ?_) (fun _ => rfl) (fun ⟨_, _, _, z⟩ => by cases z)
  refine ⟨σ, S, _, E, g, h, fun ws S1 vs H1 h1 g1 e1 r1 => ⟨by rw [← r1.length]; exact h1.1, fun q hq => ?_⟩, px⟩
  exact post_tup (fun w S' v H' q g' e' r' => p w S' v H' q g' (e1.trans e') r') g1 hq r1 h1.2
theorem RepWs.atI {ws : List W} {vs : List V} {i : Int} {w : W} (r : RepWs K H ws vs) (h : L2.atI ws i = some w) : ∃ v, L2.atI vs i = some v ∧ RepW K H w v := by
  unfold L2.atI at h ⊢
  rw [← r.length]
  cases e : ixN ws.length i with
  | none => rw [e] at h; cases h
  | some j =>
    rw [e] at h
    exact r.get (by simpa using h)
theorem plainIx (h : notSlice b = true) : PlainIx b := by
  intro o i
  cases b <;> first | rfl | (simp [notSlice] at h)
theorem idx_of {x y w : W} {vx vy : V} {QV : VK} {Q : WQ} (g : Gd K σ S Z H) (rx : RepW K H x vx) (ry : RepW K H y vy) (h : idxW x y S = some w) (q : Q w S) (p : PostE K σ S Z H Q QV) : rIx K vx vy H QV ∨ rIxD vx vy H QV ∨ rIxN vx vy H QV := by
  cases x with
  | ref ad =>
    cases rx
    by_cases hl : ∃ ws, S ad = some (.lst ws)
    · obtain ⟨ws, e⟩ := hl
      simp only [idxW, e] at h
      cases y <;> first | (simp at h; done) | skip
      cases ry
      obtain ⟨vs, e1, r⟩ := g.st _ _ e
      obtain ⟨v, hv, rv⟩ := r.atI h
      exact .inl (.inl ⟨_, _, _, v, rfl, rfl, SqL.of e1, hv, p _ _ _ _ q g .refl rv⟩)
    · by_cases hn : ∃ kvs, S ad = some (.dn kvs)
      · obtain ⟨kvs, e⟩ := hn
        unfold idxW at h
        dsimp only at h
        rw [e] at h
        dsimp only at h
        obtain ⟨k, hk, hv⟩ := Option.bind_eq_some_iff.mp h
        obtain ⟨xs, vs, n, rf⟩ := g.st _ _ e
        obtain ⟨v, e1, rv⟩ := rf.val.1 w hv
        exact .inr (.inr ⟨ad, xs, vs, k, v, rfl, n, nkW_rep ry hk, e1, p _ _ _ _ q g .refl rv⟩)
      · obtain ⟨v, dg, rv⟩ := dget_of g.st ry h (fun ws e => hl ⟨ws, e⟩) fun kvs e => hn ⟨kvs, e⟩
        exact .inr (.inl ⟨ad, v, rfl, dg, p _ _ _ _ q g .refl rv⟩)
  | str s =>
    cases y <;> first | (simp [idxW] at h; done) | skip
    cases rx; cases ry
    simp only [idxW] at h
    split at h
    · rename_i i hl
      cases e : L2.atI s.cps.toList i with
      | none => rw [e] at h; cases h
      | some d =>
        rw [e] at h; cases h
        exact .inl (.inr (.inr ⟨s, i, d, rfl, rfl, hl, e, p _ _ _ _ q g .refl (.str _)⟩))
    · cases h
  | tup ws =>
    cases y <;> first | (simp [idxW] at h; done) | skip
    cases ry
    cases rx with
    | tup q1 r =>
      simp only [idxW] at h
      obtain ⟨v, hv, rv⟩ := r.atI h
      exact .inl (.inr (.inl ⟨_, _, _, v, rfl, rfl, SqT.of q1, hv, p _ _ _ _ q g .refl rv⟩))
  | rol ws =>
    cases y <;> first | (simp [idxW] at h; done) | skip
    cases ry
    cases rx with
    | rol q1 r =>
      simp only [idxW] at h
      obtain ⟨v, hv, rv⟩ := r.atI h
      exact .inl (.inl ⟨_, _, _, v, rfl, rfl, q1.sql, hv, p _ _ _ _ q g .refl rv⟩)
  | _ => cases y <;> (simp [idxW] at h; done)
theorem snd_idx (hu : X.A.units + 64 < cLine) (hs : notSlice b = true) (ha : PE X a (liftE X.K Wx ma)) (hb : PE X b (liftE X.K Wx mb)) :
    Snd X Wx (.Subscript a b pos) (fun σ S Q E => ma σ S (fun x S1 => mb σ S1 (fun y S2 => match idxW x y S2 with
    | some w => Q w S2
    | none => False) E) E) := by
  refine Snd.plain (pe_weak (pe_ix (ix_seq.or ((ix_dict (by omega)).or (ix_nd (by omega)))) ha hb (plainIx hs)) fun Z H QV ⟨σ, S, Q, E, g, h, p, px⟩ => ?_) (fun _ => rfl) (fun ⟨_, _, _, z⟩ => by cases z)
  refine bin_lift (op := fun x y S Q => match idxW x y S with
    | some w => Q w S
    | none => False) (fun x y S Q vx vy H QV g rx ry h p => ?_) g h p px
  cases e : idxW x y S with
  | none => rw [e] at h; exact h.elim
  | some w => rw [e] at h; exact idx_of g rx ry e h p
theorem cut_rep {ws : List W} {vs : List V} (r : RepWs K H ws vs) (lo hi : Option Int) : RepWs K H (cutW ws lo hi) (cutV vs lo hi) := by
  unfold cutW cutV
  rw [← r.length]
  exact (r.drop _).take _
theorem cut_whole {vs : List V} {lo hi : Option Int} (h : HT.sIx vs.length 0 lo = 0 ∧ HT.sIx vs.length vs.length hi = vs.length) : cutV vs lo hi = vs := by
  unfold cutV
  rw [h.1, h.2]; simp
theorem po_noneL : PO X none (liftO X.K Wx fun _ S Q _ => Q none S) := po_weak po_none fun Z H Q ⟨σ, S, QW, E, g, h, p, px⟩ => p _ _ _ h g .refl
theorem po_someL (ha : PE X a (liftE X.K Wx ma)) : PO X (some a) (liftO X.K Wx fun σ S Q E => ma σ S (fun w S1 => match w with
    | .int i => Q (some i) S1
    | _ => False) E) := by
  refine po_weak (po_some ha) fun Z H QV ⟨σ, S, Q, E, g, h, p, px⟩ => ?_
  refine ⟨σ, S, _, E, g, h, fun x S1 vx H1 h1 g1 e1 r1 => ?_, px⟩
  cases x <;> first | exact h1.elim | skip
  cases r1
  exact ⟨_, rfl, p _ _ _ h1 g1 e1⟩
variable {lo hi : Option Expr} {ml mh : Envr → Sto → (Option Int → Sto → Prop) → XQ → Prop}
theorem snd_slc {p2 : Pos} (ha : PE X a (liftE X.K Wx ma)) (hl : PO X lo (liftO X.K Wx ml)) (hh : PO X hi (liftO X.K Wx mh)) :
    Snd X Wx (.Subscript a (.Slice lo hi none p2) pos) (fun σ S Q E => ma σ S (fun x S1 => ml σ S1 (fun l S2 => mh σ S2 (fun h S3 => match x with
    | .tup ws => Q (.tup (cutW ws l h)) S3
    | .str t => t.length ≤ sizeLine ∧ Q (.str (cutS t l h)) S3
    | _ => False) E) E) E) := by
  refine Snd.plain (pe_weak (pe_slice (sl_tupA.or sl_str) ha hl hh) fun Z H QV ⟨σ, S, Q, E, g, h, p, px⟩ => ?_) (fun _ => rfl) (fun ⟨_, _, _, z⟩ => by cases z)
  refine ⟨σ, S, _, E, g, h, fun x S1 vx H1 h1 g1 e1 r1 => ?_, px⟩
  refine ⟨σ, S1, _, E, g1, h1, fun l S2 H2 h2 g2 e2 => ?_, px.next e1⟩
  refine ⟨σ, S2, _, E, g2, h2, fun u S3 H3 h3 g3 e3 => ?_, px.next (e1.trans e2)⟩
  cases x <;> first | exact h3.elim | skip
  · cases (e2.trans e3).rep g1.st r1 with
    | str t => exact .inr ⟨_, rfl, h3.1, p _ _ _ _ h3.2 g3 ((e1.trans e2).trans e3) (.str _)⟩
  · cases (e2.trans e3).rep g1.st r1 with
    | tup q r =>
      have e := (e1.trans e2).trans e3
      refine .inl ⟨_, _, rfl, SqT.of q, fun hw => ?_, fun hw ad had => ?_⟩
      · refine p _ _ _ _ h3 g3 e (.tup q ?_)
        have z := cut_rep r l u
        rw [cut_whole hw] at z; exact z
      · exact post_tup (fun w S' v H' q g' e' r' => p w S' v H' q g' (e.trans e') r') g3 had (cut_rep r l u) h3
theorem pe_call0S {CX : CXT} {k : Nat} {f : Addr} {fd : FuncData} {ps : List Str} {sp : Sp} {x : Str} {p : Pos} {E : L2.St → XK} (F : FnOk X.prog X.w X.K X.mg X.base CX k f fd ps sp) (hr : Room k X.A) (hg : Gl X x) (hm : X.mg x = some (.ref f)) (hk : PySem.W.keepIn X.K (.ref f) = true) (hb : Binds X.K fd ps []) (hx : ∀ σ, PassesAt CX X σ (E σ))
    (hdb : (x == ("__debug__" : Str)) = false) : PE X (.Call (.Name x p) [] [] pos) (tCallSD sp [] E tNil) := by
  refine ⟨fun pins s σ H Q I h => ?_⟩
  refine wpAny_Call_Name_kw (ld_glob I hg hm ?_ hdb)
  exact PySem.W.callWith_K0 I.kIn hk (run_fnSD (us := []) F hr hb .nil (hx σ) I .nil h)
theorem liftSp_of {m : MSp} {ws : List W} {vs : List V} {Q : WQ} {E : XQ} {QV : VK} (g : Gd X.K σ S Z H) (r : RepWs X.K H ws vs) (h : m ws S Q E) (p : PostE X.K σ S Z H Q QV) (px : PostX X.K Wx σ S Z H E) : liftSp X.K m vs H QV (WE Wx Z) :=
  ⟨ws, S, Q, E, r, g.st, h, fun w S' v H' q s' e' r' => p w S' v H' q (g.next e' s') e' r', fun C S' H' q s' e' => px C S' H' q (g.next e' s') e'⟩
theorem PostE.next {Q : WQ} {QV : VK} {H1 : Hp} (p : PostE K σ S Z H Q QV) (e : Ext S H S1 H1) : PostE K σ S1 Z H1 Q QV := fun w S' v H' q g' e' r' => p w S' v H' q g' (e.trans e') r'
theorem plain_dbg {x : Str} (hd : plainNm x = true) : (x == ("__debug__" : Str)) = false := by
  simp only [plainNm, Bool.and_eq_true, Bool.not_eq_true'] at hd; exact hd.1
theorem snd_call {k : Nat} {f : Addr} {fd : FuncData} {ps : List Str} {m : MSp} {x : Str} {p : Pos} (F : FnOk X.prog X.w X.K X.mg X.base (L2.CX X.prog X.w) k f fd ps (liftSp X.K m)) (hr : Room k X.A) (hm : X.mg x = some (.ref f)) (hk : PySem.W.keepIn X.K (.ref f) = true) (hb : Binds X.K fd ps [])
    (tk : Takes X Wx) (hg : Gl X x) (hd : plainNm x = true) (hs : noStars (a :: es) = true) (ha : PA X (a :: es) (liftA X.K Wx mes)) :
    Snd X Wx (.Call (.Name x p) (a :: es) [] pos) (fun σ S Q E => mes σ S (fun ws S1 => m ws S1 Q E) E) := by
  have hs' := hs
  simp only [noStars, List.all_cons, Bool.and_eq_true] at hs'
  refine Snd.plain (pe_weak (pe_callSD (E := fun Z => WE Wx Z) F hr hg hm hk hb .nil (fun σ => passAt tk σ) ha (plain_dbg hd) (star_cons hs'.1) (by rw [backTo_any]; exact star_any hs'.2)) fun Z H QV ⟨σ, S, Q, E, g, h, p, px⟩ => ?_) (fun _ => rfl) (fun ⟨_, _, _, z⟩ => by cases z)
  refine ⟨σ, S, _, E, g, h, fun ws S1 vs H1 h1 g1 e1 r1 => ?_, px⟩
  dsimp only
  rw [List.append_nil]
  exact liftSp_of g1 r1 h1 (p.next e1) (px.next e1)
theorem snd_call0 {k : Nat} {f : Addr} {fd : FuncData} {ps : List Str} {m : MSp} {x : Str} {p : Pos} (F : FnOk X.prog X.w X.K X.mg X.base (L2.CX X.prog X.w) k f fd ps (liftSp X.K m)) (hr : Room k X.A) (hm : X.mg x = some (.ref f)) (hk : PySem.W.keepIn X.K (.ref f) = true) (hb : Binds X.K fd ps [])
    (tk : Takes X Wx) (hg : Gl X x) (hd : plainNm x = true) :
    Snd X Wx (.Call (.Name x p) [] [] pos) (fun σ S Q E => m [] S Q E) := by
  refine Snd.plain (pe_weak (pe_call0S (E := fun Z => WE Wx Z) F hr hg hm hk hb (fun σ => passAt tk σ) (plain_dbg hd)) fun Z H QV ⟨σ, S, Q, E, g, h, p, px⟩ => ?_) (fun _ => rfl) (fun ⟨_, _, _, z⟩ => by cases z)
  exact liftSp_of g .nil h p px
def CallOk (X : Cx) (x : Str) (r : List V → Hp → VK → Prop) : Prop := ∀ {a : Expr} {es : List Expr} {t : TA} {p pos : Pos}, noStars (a :: es) = true → PA X (a :: es) t → PE X (.Call (.Name x p) (a :: es) [] pos) (tCB r t)
theorem callOk_b {r : List V → Hp → VK → Prop} {id : String} {x : Str} (hc : CallR X (.builtin id) r) (hg : Gl X x) (hm : X.mg x = none) (hv : bootBuiltins x = some (.builtin id)) (hn : x ≠ "__name__") (hd : plainNm x = true) : CallOk X x r := fun hs ha => by
  simp only [noStars, List.all_cons, Bool.and_eq_true] at hs
  exact pe_callB hc hg hm hv ha hn (plain_dbg hd) (star_cons hs.1) (by rw [backTo_any]; exact star_any hs.2)
theorem callOk_t {r : List V → Hp → VK → Prop} {T : String} {x : Str} (hc : CallR X (.type T) r) (hg : Gl X x) (hm : X.mg x = none) (hv : bootBuiltins x = some (.type T)) (hn : x ≠ "__name__") (hd : plainNm x = true) : CallOk X x r := fun hs ha => by
  simp only [noStars, List.all_cons, Bool.and_eq_true] at hs
  exact pe_callTy hc hg hm hv ha hn (plain_dbg hd) (star_cons hs.1) (by rw [backTo_any]; exact star_any hs.2)
theorem pe_blt1 {r : List V → Hp → VK → Prop} {x : Str} {p : Pos} {op : W → Sto → WQ → Prop} (hc : CallOk X x r) (h1 : notStar a = true) (ha : PE X a (liftE X.K Wx ma))
    (hop : ∀ w v (σ : Envr) S Z H Q QV, Gd X.K σ S Z H → RepW X.K H w v → op w S Q → PostE X.K σ S Z H Q QV → r [v] H QV) :
    PE X (.Call (.Name x p) [a] [] pos) (liftE X.K Wx fun σ S Q E => ma σ S (fun x S1 => op x S1 Q) E) := by
  refine pe_weak (hc (by simp [noStars, h1]) (pa_cons ha pa_nil (star_cons h1))) fun Z H QV ⟨σ, S, Q, E, g, h, p, px⟩ => ?_
  exact ⟨σ, S, _, E, g, h, fun w S1 v H1 q g1 e1 r1 => hop w v σ S1 Z H1 Q QV g1 r1 q (p.next e1), px⟩
theorem pe_blt2 {r : List V → Hp → VK → Prop} {x : Str} {p : Pos} {op : W → W → Sto → WQ → Prop} (hc : CallOk X x r) (h1 : notStar a = true) (h2 : notStar b = true) (ha : PE X a (liftE X.K Wx ma)) (hb : PE X b (liftE X.K Wx mb))
    (hop : ∀ w u v t (σ : Envr) S Z H Q QV, Gd X.K σ S Z H → RepW X.K H w v → RepW X.K H u t → op w u S Q → PostE X.K σ S Z H Q QV → r [v, t] H QV) :
    PE X (.Call (.Name x p) [a, b] [] pos) (liftE X.K Wx fun σ S Q E => ma σ S (fun x S1 => mb σ S1 (fun y S2 => op x y S2 Q) E) E) := by
  refine pe_weak (hc (by simp [noStars, h1, h2]) (pa_cons ha (pa_cons hb pa_nil (star_cons h2)) (star_cons h1))) fun Z H QV ⟨σ, S, Q, E, g, h, p, px⟩ => ?_
  refine ⟨σ, S, _, E, g, h, fun w S1 v H1 q g1 e1 r1 => ?_, px⟩
  exact ⟨σ, S1, _, E, g1, q, fun u S2 t H2 q2 g2 e2 r2 => hop w u v t σ S2 Z H2 Q QV g2 (e2.rep g1.st r1) r2 q2 (p.next (e1.trans e2)), px.next e1⟩
theorem call_plain {x : Str} {p : Pos} {args : List Expr} {m : MTE} (h : PE X (.Call (.Name x p) args [] pos) (liftE X.K Wx m)) : Snd X Wx (.Call (.Name x p) args [] pos) m := Snd.plain h (fun _ => rfl) (fun ⟨_, _, _, z⟩ => by cases z)
theorem snd_mx {x y : Expr} {p : Pos} (hcalm : X.calm = true) (hg : Gl X "max") (hm : X.mg "max" = none) (h1 : notStar x = true) (h2 : notStar y = true) (ha : PE X x (liftE X.K Wx ma)) (hb : PE X y (liftE X.K Wx mb)) :
    Snd X Wx (.Call (.Name "max" p) [x, y] [] pos) (fun σ S Q E => ma σ S (fun x S1 => mb σ S1 (fun y S2 => match x, y with
    | .int i, .int j => Q (.int (max i j)) S2
    | _, _ => False) E) E) := by
  refine call_plain (pe_blt2 (op := fun x y S Q => match x, y with
    | .int i, .int j => Q (.int (max i j)) S
    | _, _ => False) (callOk_b (call_max2 hcalm) hg hm boot_max (by decide) (by decide)) h1 h2 ha hb fun w u v t σ S Z H Q QV g r1 r2 h p => ?_)
  cases w <;> first | exact h.elim | skip
  cases u <;> first | exact h.elim | skip
  rename_i i j
  cases r1; cases r2
  have e : (if j > i then j else i) = max i j := by omega
  exact ⟨i, j, rfl, by rw [e]; exact p _ _ _ _ h g .refl (.int _)⟩
theorem snd_mn {x y : Expr} {p : Pos} (hcalm : X.calm = true) (hg : Gl X "min") (hm : X.mg "min" = none) (h1 : notStar x = true) (h2 : notStar y = true) (ha : PE X x (liftE X.K Wx ma)) (hb : PE X y (liftE X.K Wx mb)) :
    Snd X Wx (.Call (.Name "min" p) [x, y] [] pos) (fun σ S Q E => ma σ S (fun x S1 => mb σ S1 (fun y S2 => match x, y with
    | .int i, .int j => Q (.int (min i j)) S2
    | _, _ => False) E) E) := by
  refine call_plain (pe_blt2 (op := fun x y S Q => match x, y with
    | .int i, .int j => Q (.int (min i j)) S
    | _, _ => False) (callOk_b (call_min2 hcalm) hg hm boot_min (by decide) (by decide)) h1 h2 ha hb fun w u v t σ S Z H Q QV g r1 r2 h p => ?_)
  cases w <;> first | exact h.elim | skip
  cases u <;> first | exact h.elim | skip
  rename_i i j
  cases r1; cases r2
  have e : (if j < i then j else i) = min i j := by omega
  exact ⟨i, j, rfl, by rw [e]; exact p _ _ _ _ h g .refl (.int _)⟩
theorem t_len {X : Cx} {pins} {σ} {H : Hp} {s : Shared} {A} {a : Addr} {kvs : List (List Key × V)} {E} {Q : Value → Shared → Prop} (I : Inv X pins σ H s) (e : Rd H a (.dT kvs)) (h : ∀ t s', Inv X pins σ H s' → Q (.int kvs.length t) s') : wpAny (model X.prog X.w) A (call (.builtin "len") [.ref a]) Q E s := by
  obtain ⟨z, hd, xs, rel, dd⟩ := dt_rd I.hok e
  obtain ⟨es, ep, hr, hs, _⟩ := Heap.DictOfH.raw dd
  have hl : es.size = kvs.length := by rw [hs]; exact rel.length.symm
  rw [sizeLine_eq] at z
  refine PyProof.Rows.call_len_slot hr.typeIs PySem.F.slot_dict_len (fun Q' h' => PySem.call_len_raw hd hr (by rw [hl]; exact h')) (by omega) (by omega) ?_
  exact h _ _ ((I.tok _).tok _)
theorem call_lenT {X : Cx} : CallR X (.builtin "len") (fun xs H Q => ∃ a kvs, xs = [V.ref a] ∧ H a = some (.dT kvs) ∧ Q (.int kvs.length) H) := by
  intro pins s σ H xs us Q I r h
  obtain ⟨a, kvs, rfl, ha, q⟩ := h
  obtain ⟨u, rfl, ru⟩ := vals1 r
  cases ru
  exact t_len I (.inl ha) fun t s' I' => ⟨.int kvs.length, H, I', ⟨t, rfl⟩, q⟩
theorem snd_len {x : Expr} {p : Pos} (hg : Gl X "len") (hm : X.mg "len" = none) (h1 : notStar x = true) (ha : PE X x (liftE X.K Wx ma)) :
    Snd X Wx (.Call (.Name "len" p) [x] [] pos) (fun σ S Q E => ma σ S (fun x S1 => match lenW x S1 with
    | some n => Q (.int n) S1
    | none => False) E) := by
  refine call_plain (pe_blt1 (op := fun x S Q => match lenW x S with
    | some n => Q (.int n) S
    | none => False) (callOk_b (call_len_seq.or (call_len_str.or (call_lenD.or call_lenT))) hg hm boot_len (by decide) (by decide)) h1 ha fun w v σ S Z H Q QV g r h p => ?_)
  cases w <;> first | exact h.elim | skip
  · rename_i x
    cases r
    simp only [lenW] at h
    split at h
    · rename_i n e
      split at e
      · cases e
        rename_i hl
        exact .inr (.inl ⟨_, rfl, hl, p _ _ _ _ h g .refl (.int _)⟩)
      · cases e
    · exact h.elim
  · rename_i ad
    cases r
    simp only [lenW] at h
    split at h
    · rename_i n e
      split at e
      · rename_i ws es
        cases e
        obtain ⟨vs, e1, rr⟩ := g.st _ _ es
        exact .inl ⟨_, _, rfl, .inl (SqL.of e1), by rw [← rr.length]; exact p _ _ _ _ h g .refl (.int _)⟩
      · rename_i kvs es
        cases e
        obtain ⟨vs, e1, rr⟩ := g.st _ _ es
        exact .inr (.inr (.inl ⟨ad, vs, rfl, e1, by rw [← rr.length]; exact p _ _ _ _ h g .refl (.int _)⟩))
      · rename_i kvs es
        cases e
        obtain ⟨vs, e1, rr⟩ := g.st _ _ es
        exact .inr (.inr (.inr ⟨ad, vs, rfl, e1, by rw [← rr.length]; exact p _ _ _ _ h g .refl (.int _)⟩))
      · cases e
    · exact h.elim
  · cases r with
    | tup q rr => exact .inl ⟨_, _, rfl, .inr (SqT.of q), by rw [← rr.length]; exact p _ _ _ _ h g .refl (.int _)⟩
  · cases r with
    | rol q rr => exact .inl ⟨_, _, rfl, .inl q.sql, by rw [← rr.length]; exact p _ _ _ _ h g .refl (.int _)⟩
theorem SqT.ty {ad : Addr} {vs : List V} (h : SqT K H ad vs) : TyX K H (.ref ad) (.type "tuple") := by
  rcases h with (h | ⟨o, h⟩) | ⟨o, its, n, h1, h2, _⟩
  · exact .base (.tup h)
  · exact .fTuple h
  · exact .kTuple h1 h2
theorem SqL.ty {ad : Addr} {vs : List V} (h : SqL K H ad vs) : TyX K H (.ref ad) (.type "list") := by
  rcases h with (h | ⟨o, h⟩) | ⟨o, its, n, h1, h2, _⟩
  · exact .base (.lst h)
  · exact .base (.frz h)
  · exact .kList h1 h2
theorem tyW_rep {w : W} {v : V} {t : String} (g : StOk K S H) (r : RepW K H w v) (h : tyW w S = some t) : TyX K H v (.type t) := by
  cases r with
  | non => cases h; exact .base .non
  | bl b => cases h; exact .base (.bl b)
  | int b => cases h; exact .base (.int b)
  | str b => cases h; exact .base (.str b)
  | ty n => cases h
  | tup q r => cases h; exact SqT.ty (SqT.of q)
  | rol q r => cases h; exact SqL.ty q.sql
  | ref ad =>
    simp only [tyW] at h
    split at h
    · rename_i ws e
      cases h
      obtain ⟨vs, e1, _⟩ := g _ _ e
      exact SqL.ty (SqL.of e1)
    · rename_i kvs e
      cases h
      obtain ⟨vs, e1, _⟩ := g _ _ e
      exact .base (.dK e1)
    · rename_i kvs e
      cases h
      obtain ⟨vs, e1, _⟩ := g _ _ e
      exact .base (.dT e1)
    · cases h
theorem kit_tab : ∀ u ∈ ["NoneType", "bool", "int", "str", "tuple", "list", "dict"], ∀ t ∈ ["int", "bool", "str", "tuple", "list"], kitB u t = some (u == t || (u == "bool" && t == "int")) := by decide +kernel
theorem tyW_mem {w : W} {t : String} (h : tyW w S = some t) : t ∈ ["NoneType", "bool", "int", "str", "tuple", "list", "dict"] := by
  unfold tyW at h
  split at h <;> first | (cases h; done) | (cases h; decide) | skip
  split at h <;> first | (cases h; done) | (cases h; decide)
theorem isaT_of {t : String} {y : Str} (h : isaT t y = true) : t ∈ ["int", "bool", "str", "tuple", "list"] ∧ bootBuiltins y = some (.type t) ∧ y ≠ "__name__" ∧ y ∈ bltNames ∧ plainNm y = true := by
  simp only [isaT, Bool.or_eq_true, Bool.and_eq_true, beq_iff_eq, decide_eq_true_eq] at h
  rcases h with (((⟨rfl, rfl⟩ | ⟨rfl, rfl⟩) | ⟨rfl, rfl⟩) | ⟨rfl, rfl⟩) | ⟨rfl, rfl⟩
  all_goals exact ⟨by decide, by decide +kernel, by decide, by decide, by decide⟩
theorem snd_isa {x : Expr} {y : Str} {p p2 : Pos} {t : String} (hg : Gl X "isinstance") (hm : X.mg "isinstance" = none) (hgy : Gl X y) (hmy : X.mg y = none) (ht : isaT t y = true) (h1 : notStar x = true) (ha : PE X x (liftE X.K Wx ma)) :
    Snd X Wx (.Call (.Name "isinstance" p) [x, .Name y p2] [] pos) (fun σ S Q E => ma σ S (fun x S1 => match isaW x t S1 with
    | some b => Q (.bl b) S1
    | none => False) E) := by
  obtain ⟨t1, t2, t3, _, t5⟩ := isaT_of ht
  refine call_plain (pe_weak ((callOk_b call_isi hg hm PyProof.Rows.boot_isinstance (by decide) (by decide)) (by simp only [noStars, List.all_cons, h1, Bool.true_and]; rfl) (pa_cons ha (pa_cons (pe_bltn (v := .ty t) hgy hmy t2 rfl t3 (plain_dbg t5)) pa_nil (star_cons rfl)) (star_cons h1))) fun Z H QV ⟨σ, S, Q, E, g, h, p, px⟩ => ?_)
  refine ⟨σ, S, _, E, g, h, fun w S1 v H1 q g1 e1 r1 => ?_, px⟩
  dsimp only at q
  cases e : tyW w S1 with
  | none => rw [isaW, e] at q; exact q.elim
  | some u =>
    rw [isaW, e] at q
    exact ⟨_, _, _, _, _, rfl, .ty t, tyW_rep g1.st r1 e, kit_ty (kit_tab u (tyW_mem e) t t1), p _ _ _ _ q g1 e1 (.bl _)⟩
end
section
variable {X : Cx} {Wx : WX} {K : PySem.W.Frag} {σ : Envr} {S S1 S' : Sto} {Z : L2.St} {H H1 H' : Hp}
variable {a b c : Expr} {pos : Pos} {ma mb mc : MTE} {es : List Expr} {mes mt mt2 : Envr → Sto → (List W → Sto → Prop) → XQ → Prop} {ml ml2 : Envr → Sto → LQ → XQ → Prop}
theorem Rdb.now {ws : List W} {k : LK} {st : Sto → Prop} {v : V} (r : Rdb K S H ws k st v) (g : StOk K S H) : ∃ p vs, v = .ref p ∧ RepWs K H ws vs ∧ KindAt K H p vs k := by
  obtain ⟨h, p, e, q⟩ := r
  obtain ⟨vs, h1, h2⟩ := q S H .refl g h
  exact ⟨p, vs, e, h1, h2⟩
theorem Rdb.next {ws : List W} {k : LK} {st : Sto → Prop} {v : V} (r : Rdb K S H ws k st v) (x : Ext S H S1 H1) (h : st S1) : Rdb K S1 H1 ws k st v := by
  obtain ⟨_, p, e, q⟩ := r
  exact ⟨h, p, e, fun S2 H2 x2 g2 h2 => q S2 H2 (x.trans x2) g2 h2⟩
theorem KindAt.sql {p : Addr} {vs : List V} {k : LK} (h : KindAt K H p vs k) (hk : k ≠ .tu) : SqL K H p vs := by
  cases k with
  | ls => exact SqL.of h
  | ro => exact h
  | tu => exact (hk rfl).elim
theorem KindAt.seq {p : Addr} {vs : List V} {k : LK} (h : KindAt K H p vs k) : SqL K H p vs ∨ SqT K H p vs := by
  cases k with
  | ls => exact .inl (SqL.of h)
  | ro => exact .inl h
  | tu => exact .inr (SqT.of h)
def Pln (X : Cx) (e : Expr) : Prop := (∀ whole, isTrue e X.env whole = (do let v ← whole; standAt e.pos; holding [v] (truthy v))) ∧ ¬ ∃ op vs p, e = .BoolOp op vs p
def PostT (K : PySem.W.Frag) (σ : Envr) (S : Sto) (Z : L2.St) (H : Hp) (Q : List W → Sto → Prop) (QV : VK) : Prop := ∀ ws S' p vs H', Q ws S' → Gd K σ S' Z H' → Ext S H S' H' → H' p = some (.lst vs) → RepWs K H' ws vs → S' p = none → H p = none → QV (.ref p) H'
theorem PostT.next {Q : List W → Sto → Prop} {QV : VK} (p : PostT K σ S Z H Q QV) (e : Ext S H S1 H1) : PostT K σ S1 Z H1 Q QV := fun ws S' q vs H' h g' e' h1 h2 h3 h4 => p ws S' q vs H' h g' (e.trans e') h1 h2 h3 (e.free h4)
theorem post_lst {Q : List W → Sto → Prop} {QV : VK} {q : Addr} {ws : List W} {vs : List V} (p : PostT K σ S Z H Q QV) (g : Gd K σ S Z H) (hq : H q = none) (r : RepWs K H ws vs) (h : Q ws S) : QV (.ref q) (upd H q (.lst vs)) :=
  p ws S q vs _ h (g.next (Ext.fresh hq) (g.st.fresh hq)) (Ext.fresh hq) upd_same ((Ext.fresh (S := S) (o := .lst vs) hq).reps g.st r) (g.st.free hq) hq
structure SndT (X : Cx) (Wx : WX) (e : Expr) (m : Envr → Sto → (List W → Sto → Prop) → XQ → Prop) : Prop where
  v : PE X e (liftT X.K Wx m)
  p : Pln X e
theorem snd_mat (h : SndT X Wx a mt) : Snd X Wx a (fun σ S Q E => mt σ S (fun ws S1 => ∀ p, S1 p = none → Q (.ref p) (put S1 p (.lst ws))) E) := by
  refine Snd.plain (pe_weak h.v fun Z H QV ⟨σ, S, Q, E, g, hm, p, px⟩ => ?_) h.p.1 h.p.2
  refine ⟨σ, S, _, E, g, hm, fun ws S' q vs H' hq g' e' hl r hS hH => ?_, px⟩
  exact p _ _ _ _ (hq q hS) ⟨g'.len, g'.sl, g'.st.mat ⟨vs, hl, r⟩⟩ (e'.mat hH) (.ref q)
theorem lst_t (h : PE X a (liftT X.K Wx mt)) : PE X a (liftL X.K Wx fun σ S Q E => mt σ S (fun ws S1 => Q ws .ls (fun _ => True) S1) E) := by
  refine pe_weak h fun Z H QV ⟨σ, S, Q, E, g, hm, p, px⟩ => ?_
  refine ⟨σ, S, _, E, g, hm, fun ws S' q vs H' hq g' e' hl r hS hH => ?_, px⟩
  exact p _ _ _ _ _ _ hq g' e' ⟨trivial, q, rfl, fun S2 H2 x2 g2 _ => ⟨vs, x2.reps g'.st r, x2.fr q _ hl hS⟩⟩
theorem lst_of (h : PE X a (liftE X.K Wx ma)) : PE X a (liftL X.K Wx fun σ S Q E => ma σ S (fun x S1 => match x with
    | .tup ws => Q ws .tu (fun _ => True) S1
    | .rol ws => Q ws .ro (fun _ => True) S1
    | .ref a => (match S1 a with
      | some (.lst ws) => Q ws .ls (fun S2 => S2 a = some (.lst ws)) S1
      | _ => False)
    | _ => False) E) := by
  refine pe_weak h fun Z H QV ⟨σ, S, Q, E, g, hm, p, px⟩ => ?_
  refine ⟨σ, S, _, E, g, hm, fun w S' v H' hq g' e' r => ?_, px⟩
  cases w <;> first | exact hq.elim | skip
  · rename_i ad
    cases r
    dsimp only at hq
    split at hq
    · rename_i ws es
      refine p _ _ _ _ _ _ hq g' e' ⟨es, ad, rfl, fun S2 H2 x2 g2 h2 => ?_⟩
      obtain ⟨vs, e2, r2⟩ := g2 _ _ h2
      exact ⟨vs, r2, e2⟩
    · exact hq.elim
  · cases r with
    | tup q r => exact p _ _ _ _ _ _ hq g' e' ⟨trivial, _, rfl, fun S2 H2 x2 g2 _ => ⟨_, x2.reps g'.st r, (x2.stay g'.st).1 _ _ q⟩⟩
  · cases r with
    | rol q r => exact p _ _ _ _ _ _ hq g' e' ⟨trivial, _, rfl, fun S2 H2 x2 g2 _ => ⟨_, x2.reps g'.st r, ((x2.stay g'.st).2 _ _ q).sql⟩⟩
theorem pe_bltL {r : List V → Hp → VK → Prop} {x : Str} {p : Pos} {op : List W → LK → (Sto → Prop) → Sto → WQ → Prop} (hc : CallOk X x r) (h1 : notStar a = true) (ha : PE X a (liftL X.K Wx ml))
    (hop : ∀ ws k st v (σ : Envr) S Z H Q QV, Gd X.K σ S Z H → Rdb X.K S H ws k st v → op ws k st S Q → PostE X.K σ S Z H Q QV → r [v] H QV) :
    PE X (.Call (.Name x p) [a] [] pos) (liftE X.K Wx fun σ S Q E => ml σ S (fun ws k st S1 => op ws k st S1 Q) E) := by
  refine pe_weak (hc (by simp [noStars, h1]) (pa_cons ha pa_nil (star_cons h1))) fun Z H QV ⟨σ, S, Q, E, g, h, p, px⟩ => ?_
  exact ⟨σ, S, _, E, g, h, fun ws k st S1 v H1 q g1 e1 r1 => hop ws k st v σ S1 Z H1 Q QV g1 r1 q (p.next e1), px⟩
theorem pe_bltT {r : List V → Hp → VK → Prop} {x : Str} {p : Pos} {op : List W → LK → (Sto → Prop) → Sto → (List W → Sto → Prop) → Prop} (hc : CallOk X x r) (h1 : notStar a = true) (ha : PE X a (liftL X.K Wx ml))
    (hop : ∀ ws k st v (σ : Envr) S Z H Q QV, Gd X.K σ S Z H → Rdb X.K S H ws k st v → op ws k st S Q → PostT X.K σ S Z H Q QV → r [v] H QV) :
    SndT X Wx (.Call (.Name x p) [a] [] pos) (fun σ S Q E => ml σ S (fun ws k st S1 => op ws k st S1 Q) E) := by
  refine ⟨pe_weak (hc (by simp [noStars, h1]) (pa_cons ha pa_nil (star_cons h1))) fun Z H QV ⟨σ, S, Q, E, g, h, p, px⟩ => ?_, fun _ => rfl, fun ⟨_, _, _, z⟩ => by cases z⟩
  exact ⟨σ, S, _, E, g, h, fun ws k st S1 v H1 q g1 e1 r1 => hop ws k st v σ S1 Z H1 Q QV g1 r1 q (PostT.next p e1), px⟩
theorem snd_tupl {p : Pos} (hg : Gl X "tuple") (hm : X.mg "tuple" = none) (h1 : notStar a = true) (ha : PE X a (liftL X.K Wx ml)) :
    Snd X Wx (.Call (.Name "tuple" p) [a] [] pos) (fun σ S Q E => ml σ S (fun ws _ _ S1 => Q (.tup ws) S1) E) := by
  refine call_plain (pe_bltL (op := fun ws _ _ S Q => Q (.tup ws) S) (callOk_t call_tuple_of hg hm PyProof.Rows.boot_tuple (by decide) (by decide)) h1 ha fun ws k st v σ S Z H Q QV g r h p => ?_)
  obtain ⟨q, vs, rfl, r1, r2⟩ := r.now g.st
  refine ⟨q, vs, rfl, ?_⟩
  cases k with
  | ls => exact .inl ⟨SqL.of r2, fun l hl => post_tup p g hl r1 h⟩
  | ro => exact .inl ⟨r2, fun l hl => post_tup p g hl r1 h⟩
  | tu => exact .inr ⟨SqT.of r2, p _ _ _ _ h g .refl (.tup r2 r1)⟩
theorem sndT_lst {p : Pos} (hg : Gl X "list") (hm : X.mg "list" = none) (h1 : notStar a = true) (ha : PE X a (liftL X.K Wx ml)) :
    SndT X Wx (.Call (.Name "list" p) [a] [] pos) (fun σ S Q E => ml σ S (fun ws _ _ S1 => Q ws S1) E) := by
  refine pe_bltT (op := fun ws _ _ S Q => Q ws S) (callOk_t call_list_of hg hm PyProof.Rows.boot_list (by decide) (by decide)) h1 ha fun ws k st v σ S Z H Q QV g r h p => ?_
  obtain ⟨q, vs, rfl, r1, r2⟩ := r.now g.st
  exact ⟨q, vs, rfl, r2.seq, fun l hl => post_lst p g hl r1 h⟩
theorem intsOf_eq : ∀ {ws : List W} {ns : List Int}, intsOf ws = some ns → ws = ns.map W.int
  | [], _, h => by cases h; rfl
  | .int i :: r, ns, h => by
    simp only [intsOf] at h
    cases e : intsOf r with
    | none => rw [e] at h; cases h
    | some ms => rw [e] at h; cases h; rw [intsOf_eq e]; rfl
  | .non :: _, _, h => by cases h
  | .bl _ :: _, _, h => by cases h
  | .str _ :: _, _, h => by cases h
  | .ref _ :: _, _, h => by cases h
  | .ty _ :: _, _, h => by cases h
  | .tup _ :: _, _, h => by cases h
  | .rol _ :: _, _, h => by cases h
theorem blsOf_eq : ∀ {ws : List W} {ns : List Bool}, blsOf ws = some ns → ws = ns.map W.bl
  | [], _, h => by cases h; rfl
  | .bl i :: r, ns, h => by
    simp only [blsOf] at h
    cases e : blsOf r with
    | none => rw [e] at h; cases h
    | some ms => rw [e] at h; cases h; rw [blsOf_eq e]; rfl
  | .non :: _, _, h => by cases h
  | .int _ :: _, _, h => by cases h
  | .str _ :: _, _, h => by cases h
  | .ref _ :: _, _, h => by cases h
  | .ty _ :: _, _, h => by cases h
  | .tup _ :: _, _, h => by cases h
  | .rol _ :: _, _, h => by cases h
theorem rd_ints {ws : List W} {k : LK} {st : Sto → Prop} {v : V} {ns : List Int} (g : StOk K S H) (r : Rdb K S H ws k st v) (hk : k ≠ .tu) (e : intsOf ws = some ns) : ∃ p, v = .ref p ∧ SqL K H p (ns.map V.int) := by
  obtain ⟨q, vs, rfl, r1, r2⟩ := r.now g
  rw [intsOf_eq e] at r1
  rw [← r1.ints]
  exact ⟨q, rfl, r2.sql hk⟩
theorem rd_bls {ws : List W} {k : LK} {st : Sto → Prop} {v : V} {ns : List Bool} (g : StOk K S H) (r : Rdb K S H ws k st v) (hk : k ≠ .tu) (e : blsOf ws = some ns) : ∃ p, v = .ref p ∧ SqL K H p (ns.map V.bl) := by
  obtain ⟨q, vs, rfl, r1, r2⟩ := r.now g
  rw [blsOf_eq e] at r1
  rw [← r1.bls]
  exact ⟨q, rfl, r2.sql hk⟩
theorem snd_sum {p : Pos} (hc : X.calm = true) (hg : Gl X "sum") (hm : X.mg "sum" = none) (h1 : notStar a = true) (ha : PE X a (liftL X.K Wx ml)) :
    Snd X Wx (.Call (.Name "sum" p) [a] [] pos) (fun σ S Q E => ml σ S (fun ws k _ S1 => k ≠ .tu ∧ match intsOf ws with
    | some ns => Q (.int ns.sum) S1
    | none => False) E) := by
  refine call_plain (pe_bltL (op := fun ws k _ S Q => k ≠ .tu ∧ match intsOf ws with
    | some ns => Q (.int ns.sum) S
    | none => False) (callOk_b (cr_sum hc) hg hm boot_sum (by decide) (by decide)) h1 ha fun ws k st v σ S Z H Q QV g r h p => ?_)
  obtain ⟨hk, h⟩ := h
  split at h
  · rename_i ns e
    obtain ⟨q, rfl, z⟩ := rd_ints g.st r hk e
    exact ⟨q, ns, rfl, z, p _ _ _ _ h g .refl (.int _)⟩
  · exact h.elim
theorem snd_any {p : Pos} (hc : X.calm = true) (hg : Gl X "any") (hm : X.mg "any" = none) (h1 : notStar a = true) (ha : PE X a (liftL X.K Wx ml)) :
    Snd X Wx (.Call (.Name "any" p) [a] [] pos) (fun σ S Q E => ml σ S (fun ws k _ S1 => k ≠ .tu ∧ match blsOf ws with
    | some bs => Q (.bl (bs.any id)) S1
    | none => False) E) := by
  refine call_plain (pe_bltL (op := fun ws k _ S Q => k ≠ .tu ∧ match blsOf ws with
    | some bs => Q (.bl (bs.any id)) S
    | none => False) (callOk_b (cr_any hc) hg hm boot_any (by decide) (by decide)) h1 ha fun ws k st v σ S Z H Q QV g r h p => ?_)
  obtain ⟨hk, h⟩ := h
  split at h
  · rename_i ns e
    obtain ⟨q, rfl, z⟩ := rd_bls g.st r hk e
    exact ⟨q, ns, rfl, z, p _ _ _ _ h g .refl (.bl _)⟩
  · exact h.elim
theorem snd_all {p : Pos} (hc : X.calm = true) (hg : Gl X "all") (hm : X.mg "all" = none) (h1 : notStar a = true) (ha : PE X a (liftL X.K Wx ml)) :
    Snd X Wx (.Call (.Name "all" p) [a] [] pos) (fun σ S Q E => ml σ S (fun ws k _ S1 => k ≠ .tu ∧ match blsOf ws with
    | some bs => Q (.bl (bs.all id)) S1
    | none => False) E) := by
  refine call_plain (pe_bltL (op := fun ws k _ S Q => k ≠ .tu ∧ match blsOf ws with
    | some bs => Q (.bl (bs.all id)) S
    | none => False) (callOk_b (cr_all hc) hg hm (by decide +kernel) (by decide) (by decide)) h1 ha fun ws k st v σ S Z H Q QV g r h p => ?_)
  obtain ⟨hk, h⟩ := h
  split at h
  · rename_i ns e
    obtain ⟨q, rfl, z⟩ := rd_bls g.st r hk e
    exact ⟨q, ns, rfl, z, p _ _ _ _ h g .refl (.bl _)⟩
  · exact h.elim
theorem snd_max1 {p : Pos} (hc : X.calm = true) (hg : Gl X "max") (hm : X.mg "max" = none) (h1 : notStar a = true) (ha : PE X a (liftL X.K Wx ml)) :
    Snd X Wx (.Call (.Name "max" p) [a] [] pos) (fun σ S Q E => ml σ S (fun ws k _ S1 => k ≠ .tu ∧ match intsOf ws with
    | some ns => ns ≠ [] ∧ ∀ m, m ∈ ns → (∀ y ∈ ns, y ≤ m) → Q (.int m) S1
    | none => False) E) := by
  refine call_plain (pe_bltL (op := fun ws k _ S Q => k ≠ .tu ∧ match intsOf ws with
    | some ns => ns ≠ [] ∧ ∀ m, m ∈ ns → (∀ y ∈ ns, y ≤ m) → Q (.int m) S
    | none => False) (callOk_b (cr_max hc) hg hm boot_max (by decide) (by decide)) h1 ha fun ws k st v σ S Z H Q QV g r h p => ?_)
  obtain ⟨hk, h⟩ := h
  split at h
  · rename_i ns e
    obtain ⟨q, rfl, z⟩ := rd_ints g.st r hk e
    exact ⟨q, ns, rfl, z, List.length_pos_iff.mpr h.1, fun m hm hy => p _ _ _ _ (h.2 m hm hy) g .refl (.int _)⟩
  · exact h.elim
theorem snd_min1 {p : Pos} (hc : X.calm = true) (hg : Gl X "min") (hm : X.mg "min" = none) (h1 : notStar a = true) (ha : PE X a (liftL X.K Wx ml)) :
    Snd X Wx (.Call (.Name "min" p) [a] [] pos) (fun σ S Q E => ml σ S (fun ws k _ S1 => k ≠ .tu ∧ match intsOf ws with
    | some ns => ns ≠ [] ∧ ∀ m, m ∈ ns → (∀ y ∈ ns, m ≤ y) → Q (.int m) S1
    | none => False) E) := by
  refine call_plain (pe_bltL (op := fun ws k _ S Q => k ≠ .tu ∧ match intsOf ws with
    | some ns => ns ≠ [] ∧ ∀ m, m ∈ ns → (∀ y ∈ ns, m ≤ y) → Q (.int m) S
    | none => False) (callOk_b (cr_min hc) hg hm boot_min (by decide) (by decide)) h1 ha fun ws k st v σ S Z H Q QV g r h p => ?_)
  obtain ⟨hk, h⟩ := h
  split at h
  · rename_i ns e
    obtain ⟨q, rfl, z⟩ := rd_ints g.st r hk e
    exact ⟨q, ns, rfl, z, List.length_pos_iff.mpr h.1, fun m hm hy => p _ _ _ _ (h.2 m hm hy) g .refl (.int _)⟩
  · exact h.elim
end
section
variable {X : Cx} {Wx : WX} {K : PySem.W.Frag} {σ : Envr} {S S1 S' : Sto} {Z : L2.St} {H H1 H' : Hp}
variable {a b c : Expr} {pos : Pos} {ma mb mc : MTE} {es : List Expr} {mes mt mt2 : Envr → Sto → (List W → Sto → Prop) → XQ → Prop} {ml ml2 : Envr → Sto → LQ → XQ → Prop} {mlo mhi : Envr → Sto → (Option Int → Sto → Prop) → XQ → Prop}
theorem sndT_dsp (h : PA X es (liftA X.K Wx mes)) : SndT X Wx (.List es pos) (fun σ S Q E => mes σ S (fun ws S1 => ws.length ≤ sizeLine ∧ Q ws S1) E) := by
  refine ⟨pe_weak (pe_lst h) fun Z H QV ⟨σ, S, Q, E, g, h, p, px⟩ => ?_, fun _ => rfl, fun ⟨_, _, _, z⟩ => by cases z⟩
  refine ⟨σ, S, _, E, g, h, fun ws S1 vs H1 h1 g1 e1 r1 => ⟨by rw [← r1.length]; exact h1.1, fun q hq => ?_⟩, px⟩
  exact post_lst (PostT.next p e1) g1 hq r1 h1.2
def rCatL (K : PySem.W.Frag) : R2 := fun x y H Q => ∃ l b xs zs, x = .ref l ∧ y = .ref b ∧ SqL K H l xs ∧ SqL K H b zs ∧ xs.length + zs.length ≤ sizeLine ∧ ∀ p, H p = none → Q (.ref p) (upd H p (.lst (xs ++ zs)))
theorem op_catL : OpR X (binaryOp .Add) (rCatL X.K) := by
  intro pins s σ H x y v u Q I rx ry h
  obtain ⟨l, b, xs, zs, rfl, rfl, hH, hB, hz, q⟩ := h
  cases rx
  cases ry
  obtain ⟨its, r, ⟨o1, n1, ho1, hc1, hd1, he1⟩, hl1⟩ := I.list hH
  obtain ⟨its2, r2, ⟨o2, n2, ho2, hc2, hd2, he2⟩, hl2⟩ := I.list hB
  obtain ⟨cls, dd, data, sl⟩ := o1
  obtain ⟨cls2, dd2, data2, sl2⟩ := o2
  simp only at hc1 hd1 he1 hc2 hd2 he2
  subst hc1 hd1 he1 hc2 hd2 he2
  have l1 := r.length
  have l2 := r2.length
  refine concat_meets ⟨_, ho1, rfl⟩ ⟨_, ho2, rfl⟩ noFill_list_add seq_list_add PySem.F.slot_list_add PySem.F.entry_list_add (PySem.F.args_list_add_2 _ _) (list_addW l b its.toArray its2.toArray n1 n2 none none sl sl2 (by simp; omega)) ⟨ho1, ho2, ?_⟩
  have ea : its.toArray ++ its2.toArray = (its ++ its2).toArray := by simp
  rw [ea]
  exact ⟨.ref _, _, I.lnew (t' := s.toks) (r.append r2) (by rw [List.length_append]; omega), rfl, q _ I.fresh⟩
theorem sndT_cat (ha : PE X a (liftL X.K Wx ml)) (hb : PE X b (liftL X.K Wx ml2)) :
    SndT X Wx (.BinOp a .Add b pos) (fun σ S Q E => ml σ S (fun xs k1 st S1 => ml2 σ S1 (fun ys k2 _ S2 => k1 ≠ .tu ∧ k2 ≠ .tu ∧ st S2 ∧ xs.length + ys.length ≤ sizeLine ∧ Q (xs ++ ys) S2) E) E) := by
  refine ⟨pe_weak (pe_op op_catL ha hb) fun Z H QV ⟨σ, S, Q, E, g, h, p, px⟩ => ?_, fun _ => rfl, fun ⟨_, _, _, z⟩ => by cases z⟩
  refine ⟨σ, S, _, E, g, h, fun xs k1 st S1 v1 H1 h1 g1 e1 r1 => ?_, px⟩
  refine ⟨σ, S1, _, E, g1, h1, fun ys k2 st2 S2 v2 H2 h2 g2 e2 r2 => ?_, px.next e1⟩
  obtain ⟨t1, t2, hst, hl, hq⟩ := h2
  obtain ⟨p1, vs1, rfl, rr1, ka1⟩ := (r1.next e2 hst).now g2.st
  obtain ⟨p2, vs2, rfl, rr2, ka2⟩ := r2.now g2.st
  exact ⟨p1, p2, vs1, vs2, rfl, rfl, ka1.sql t1, ka2.sql t2, by rw [← rr1.length, ← rr2.length]; exact hl, fun q hqq => post_lst (PostT.next p (e1.trans e2)) g2 hqq (rr1.append rr2) hq⟩
theorem sndT_slc {lo hi : Option Expr} {p2 : Pos} (ha : PE X a (liftL X.K Wx ml)) (hl : PO X lo (liftO X.K Wx mlo)) (hh : PO X hi (liftO X.K Wx mhi)) :
    SndT X Wx (.Subscript a (.Slice lo hi none p2) pos) (fun σ S Q E => ml σ S (fun xs k st S1 => mlo σ S1 (fun l S2 => mhi σ S2 (fun h S3 => k ≠ .tu ∧ st S3 ∧ Q (cutW xs l h) S3) E) E) E) := by
  refine ⟨pe_weak (pe_slice sl_list ha hl hh) fun Z H QV ⟨σ, S, Q, E, g, h, p, px⟩ => ?_, fun _ => rfl, fun ⟨_, _, _, z⟩ => by cases z⟩
  refine ⟨σ, S, _, E, g, h, fun xs k st S1 v1 H1 h1 g1 e1 r1 => ?_, px⟩
  refine ⟨σ, S1, _, E, g1, h1, fun l S2 H2 h2 g2 e2 => ?_, px.next e1⟩
  refine ⟨σ, S2, _, E, g2, h2, fun u S3 H3 h3 g3 e3 => ?_, px.next (e1.trans e2)⟩
  obtain ⟨t1, hst, hq⟩ := h3
  obtain ⟨p1, vs1, rfl, rr1, ka1⟩ := (r1.next (e2.trans e3) hst).now g3.st
  exact ⟨p1, vs1, rfl, ka1.sql t1, fun q hqq => post_lst (PostT.next p ((e1.trans e2).trans e3)) g3 hqq (cut_rep rr1 l u) hq⟩
theorem sndT_rev {k : Nat} {p1 p2 p3 : Pos} (ha : PE X a (liftL X.K Wx ml)) :
    SndT X Wx (.Subscript a (.Slice none none (some (.UnaryOp .USub (.Constant (.int 1) k p1) p2)) p3) pos) (fun σ S Q E => ml σ S (fun xs k _ S1 => k ≠ .tu ∧ Q xs.reverse S1) E) := by
  refine ⟨pe_weak (L2.pe_revL ha) fun Z H QV ⟨σ, S, Q, E, g, h, p, px⟩ => ?_, fun _ => rfl, fun ⟨_, _, _, z⟩ => by cases z⟩
  refine ⟨σ, S, _, E, g, h, fun xs k st S1 v1 H1 h1 g1 e1 r1 => ?_, px⟩
  obtain ⟨p1, vs1, rfl, rr1, ka1⟩ := r1.now g1.st
  exact ⟨p1, vs1, rfl, ka1.sql h1.1, fun q hqq => post_lst (PostT.next p e1) g1 hqq rr1.reverse h1.2⟩
theorem dp_list {ws : List W} {p : Addr} {vs : List V} (r : RepWs K H ws vs) (h : SqL K H p vs) (e : W.eqsOk ws) : Dp K H (.ref p) (.list (W.dats ws)) := .lst h (r.dp e.1)
theorem snd_eql {o : CmpOp} {k : Bool} (hk : (match o with | .Eq => k | .NotEq => !k | _ => false) = true) (hu : X.A.units + 64 < cLine) (ha : PE X a (liftL X.K Wx ml)) (hb : PE X b (liftL X.K Wx ml2)) :
    Snd X Wx (.Compare a [o] [b] pos) (fun σ S Q E => ml σ S (fun xs k1 st S1 => ml2 σ S1 (fun ys k2 _ S2 => k1 ≠ .tu ∧ k2 ≠ .tu ∧ st S2 ∧ W.eqsOk xs ∧ W.eqsOk ys ∧ Q (.bl (W.eqvs xs ys == k)) S2) E) E) := by
  cases o <;> first | (simp at hk; done) | skip
  · have hk' : k = true := hk
    subst hk'
    refine Snd.cmp (pe_cmpR (op_eqD hu) ha hb (nomark _)) (pt_cmpR (op_eqD hu) ha hb (nomark _)) (fun Z H QV ⟨σ, S, Q, E, g, h, p, px⟩ => ?_) (fun ⟨_, _, _, z⟩ => by cases z)
    refine ⟨σ, S, _, E, g, h, fun xs k1 st S1 v1 H1 h1 g1 e1 r1 => ?_, px⟩
    refine ⟨σ, S1, _, E, g1, h1, fun ys k2 st2 S2 v2 H2 h2 g2 e2 r2 => ?_, px.next e1⟩
    obtain ⟨t1, t2, hst, q1, q2, hq⟩ := h2
    obtain ⟨p1, vs1, rfl, rr1, ka1⟩ := (r1.next e2 hst).now g2.st
    obtain ⟨p2, vs2, rfl, rr2, ka2⟩ := r2.now g2.st
    refine ⟨_, _, dp_list rr1 (ka1.sql t1) q1, dp_list rr2 (ka2.sql t2) q2, q1.2, q2.2, p _ _ _ _ ?_ g2 (e1.trans e2) (.bl _)⟩
    have e : W.eqvs xs ys = PyData.eqv (.list (W.dats xs)) (.list (W.dats ys)) := by simp only [W.eqvs, PyData.eqv]
    rw [← e]
    cases z : W.eqvs xs ys <;> (rw [z] at hq; exact hq)
  · have hk' : k = false := by simpa using hk
    subst hk'
    refine Snd.cmp (pe_cmpR (op_neD hu) ha hb (nomark _)) (pt_cmpR (op_neD hu) ha hb (nomark _)) (fun Z H QV ⟨σ, S, Q, E, g, h, p, px⟩ => ?_) (fun ⟨_, _, _, z⟩ => by cases z)
    refine ⟨σ, S, _, E, g, h, fun xs k1 st S1 v1 H1 h1 g1 e1 r1 => ?_, px⟩
    refine ⟨σ, S1, _, E, g1, h1, fun ys k2 st2 S2 v2 H2 h2 g2 e2 r2 => ?_, px.next e1⟩
    obtain ⟨t1, t2, hst, q1, q2, hq⟩ := h2
    obtain ⟨p1, vs1, rfl, rr1, ka1⟩ := (r1.next e2 hst).now g2.st
    obtain ⟨p2, vs2, rfl, rr2, ka2⟩ := r2.now g2.st
    refine ⟨_, _, dp_list rr1 (ka1.sql t1) q1, dp_list rr2 (ka2.sql t2) q2, q1.2, q2.2, p _ _ _ _ ?_ g2 (e1.trans e2) (.bl _)⟩
    have e : W.eqvs xs ys = PyData.eqv (.list (W.dats xs)) (.list (W.dats ys)) := by simp only [W.eqvs, PyData.eqv]
    rw [← e]
    cases z : W.eqvs xs ys <;> (rw [z] at hq; exact hq)
theorem snd_idl (hs : notSlice b = true) (ha : PE X a (liftL X.K Wx ml)) (hb : PE X b (liftE X.K Wx mb)) :
    Snd X Wx (.Subscript a b pos) (fun σ S Q E => ml σ S (fun ws _ st S1 => mb σ S1 (fun y S2 => st S2 ∧ match y with
    | .int k => (match atI ws k with
      | some w => Q w S2
      | none => False)
    | _ => False) E) E) := by
  refine Snd.plain (pe_weak (pe_ix ix_seq ha hb (plainIx hs)) fun Z H QV ⟨σ, S, Q, E, g, h, p, px⟩ => ?_) (fun _ => rfl) (fun ⟨_, _, _, z⟩ => by cases z)
  refine ⟨σ, S, _, E, g, h, fun xs k1 st S1 v1 H1 h1 g1 e1 r1 => ?_, px⟩
  refine ⟨σ, S1, _, E, g1, h1, fun y S2 v2 H2 h2 g2 e2 r2 => ?_, px.next e1⟩
  obtain ⟨hst, h2⟩ := h2
  obtain ⟨p1, vs1, rfl, rr1, ka1⟩ := (r1.next e2 hst).now g2.st
  cases y <;> first | exact h2.elim | skip
  rename_i i
  cases r2
  dsimp only at h2
  split at h2
  · rename_i w e
    obtain ⟨v, hv, rv⟩ := rr1.atI e
    have q := p _ _ _ _ h2 g2 (e1.trans e2) rv
    rcases ka1.seq with z | z
    · exact .inl ⟨p1, vs1, i, v, rfl, rfl, z, hv, q⟩
    · exact .inr (.inl ⟨p1, vs1, i, v, rfl, rfl, z, hv, q⟩)
  · exact h2.elim
theorem isLst_ty {w : W} {v : V} (g : StOk K S H) (r : RepW K H w v) (h : isLst w S) : tyV K "list" v H := by
  cases w <;> first | exact h.elim | skip
  rename_i ad
  cases r
  unfold isLst at h
  dsimp only at h
  split at h
  · rename_i ws e
    obtain ⟨vs, e1, _⟩ := g _ _ e
    exact .inl ⟨rfl, _, SqL.of e1⟩
  · exact h.elim
theorem base_ok {r0 : Expr} {m : Str} (h : baseOk r0 = true) : attributeBase r0 m X.env (eval r0 X.env) = eval r0 X.env := by
  cases r0 <;> first | rfl | skip
  rename_i f args kws pos
  cases f <;> first | rfl | skip
  cases args with
  | cons _ _ => rfl
  | nil => cases kws with
    | cons _ _ => rfl
    | nil => simp [baseOk] at h
theorem callMt_of {m : Str} {e r : Expr} {args : List Expr} (h : callMt m e = some (r, args)) : ∃ ap pos, e = .Call (.Attribute r m ap) args [] pos ∧ baseOk r = true ∧ (ap.endLine == pos.line) = true := by
  unfold callMt at h
  split at h
  · split at h
    · rename_i o n ap args' pos hc
      cases h
      simp only [Bool.and_eq_true, decide_eq_true_eq] at hc
      obtain ⟨⟨rfl, h2⟩, h3⟩ := hc
      exact ⟨_, _, rfl, h2, h3⟩
    · cases h
  · cases h
theorem post_set {Q : WQ} {QV : VK} {l : Addr} {w : W} {v : V} {ws ws0 : List W} {vs : List V} (p : PostE K σ S Z H Q QV) (g : Gd K σ S Z H) (e : S l = some (.lst ws0)) (r : RepWs K H ws vs) (rw' : RepW K H w v) (h : Q w (put S l (.lst ws))) : QV v (upd H l (.lst vs)) := by
  have x : Ext S H (put S l (.lst ws)) (upd H l (.lst vs)) := Ext.write (by rw [e]; exact fun z => by cases z) (g.st.nfL e)
  exact p _ _ _ _ h (g.next x (g.st.setLst e r)) x (x.rep g.st rw')
variable {r0 : Expr} {m : Str} {ap : Pos}
theorem bm_few {pos : Pos} (h1 : notStar a = true) : ((backTo pos (starEach [a] X.env)).all (fun x => !x.1) && (backToKw pos (keywordEach [] X.env)).all (fun x => x.1.isSome)
      && decide ([a].length + ([] : List Keyword).length + (if ([] : List Keyword).isEmpty then 0 else 1) < 30)) = true := by
  rw [star_cons h1]; rfl
theorem snd_app {pos : Pos} (hl : (ap.endLine == pos.line) = true) (h1 : notStar a = true) (hb0 : baseOk r0 = true) (ho : PE X r0 (liftE X.K Wx ma)) (ha : PE X a (liftE X.K Wx mb)) :
    Snd X Wx (.Call (.Attribute r0 "append" ap) [a] [] pos) (fun σ S Q E => ma σ S (fun x S1 => isLst x S1 ∧ mb σ S1 (fun y S2 => match x with
    | .ref a => (match S2 a with
      | some (.lst ws) => ws.length < sizeLine ∧ Q .non (put S2 a (.lst (ws ++ [y])))
      | _ => False)
    | _ => False) E) E) := by
  refine Snd.plain (pe_weak (pe_bm PySem.F.plainAttrs_list PySem.F.slot_list_append PySem.F.type_list_append mt_append ho (pa_cons ha pa_nil (star_cons h1)) (base_ok hb0) (bm_few h1) hl (star_cons h1) rfl) fun Z H QV ⟨σ, S, Q, E, g, h, p, px⟩ => ?_) (fun _ => rfl) (fun ⟨_, _, _, z⟩ => by cases z)
  refine ⟨σ, S, _, E, g, h, fun x S1 v1 H1 h1 g1 e1 r1 => ⟨isLst_ty g1.st r1 h1.1, ?_⟩, px⟩
  refine ⟨σ, S1, _, E, g1, h1.2, fun y S2 v2 H2 h2 g2 e2 r2 => ?_, px.next e1⟩
  cases x <;> first | exact h2.elim | skip
  rename_i l
  cases r1
  dsimp only at h2
  split at h2
  · rename_i ws e
    obtain ⟨vs, hv, rv⟩ := g2.st _ _ e
    exact ⟨l, vs, v2, rfl, rfl, hv, by rw [← rv.length]; exact h2.1, post_set (p.next (e1.trans e2)) g2 e (rv.append (.cons r2 .nil)) .non h2.2⟩
  · exact h2.elim
theorem snd_ext {pos : Pos} (hl : (ap.endLine == pos.line) = true) (h1 : notStar a = true) (hb0 : baseOk r0 = true) (ho : PE X r0 (liftE X.K Wx ma)) (ha : PE X a (liftL X.K Wx ml)) :
    Snd X Wx (.Call (.Attribute r0 "extend" ap) [a] [] pos) (fun σ S Q E => ma σ S (fun x S1 => isLst x S1 ∧ ml σ S1 (fun ys k _ S2 => k = .ls ∧ match x with
    | .ref a => (match S2 a with
      | some (.lst ws) => ws.length + ys.length ≤ sizeLine ∧ Q .non (put S2 a (.lst (ws ++ ys)))
      | _ => False)
    | _ => False) E) E) := by
  refine Snd.plain (pe_weak (pe_bm PySem.F.plainAttrs_list PySem.F.slot_list_extend PySem.F.type_list_extend mt_extend ho (pa_cons ha pa_nil (star_cons h1)) (base_ok hb0) (bm_few h1) hl (star_cons h1) rfl) fun Z H QV ⟨σ, S, Q, E, g, h, p, px⟩ => ?_) (fun _ => rfl) (fun ⟨_, _, _, z⟩ => by cases z)
  refine ⟨σ, S, _, E, g, h, fun x S1 v1 H1 h1 g1 e1 r1 => ⟨isLst_ty g1.st r1 h1.1, ?_⟩, px⟩
  refine ⟨σ, S1, _, E, g1, h1.2, fun ys k st S2 v2 H2 h2 g2 e2 r2 => ?_, px.next e1⟩
  obtain ⟨hk, h2⟩ := h2
  subst hk
  cases x <;> first | exact h2.elim | skip
  rename_i l
  cases r1
  dsimp only at h2
  split at h2
  · rename_i ws e
    obtain ⟨vs, hv, rv⟩ := g2.st _ _ e
    obtain ⟨p1, vs1, rfl, rr1, ka1⟩ := r2.now g2.st
    exact ⟨l, p1, vs, vs1, rfl, rfl, hv, ka1, by rw [← rv.length, ← rr1.length]; exact h2.1, post_set (p.next (e1.trans e2)) g2 e (rv.append rr1) .non h2.2⟩
  · exact h2.elim
theorem snd_pop0 {pos : Pos} (hl : (ap.endLine == pos.line) = true) (hb0 : baseOk r0 = true) (ho : PE X r0 (liftE X.K Wx ma)) :
    Snd X Wx (.Call (.Attribute r0 "pop" ap) [] [] pos) (fun σ S Q E => ma σ S (fun x S1 => isLst x S1 ∧ match x with
    | .ref a => (match S1 a with
      | some (.lst ws) => (match ws[ws.length - 1]? with
        | some w => Q w (put S1 a (.lst ws.dropLast))
        | none => False)
      | _ => False)
    | _ => False) E) := by
  refine Snd.plain (pe_weak (pe_bm0 PySem.F.plainAttrs_list PySem.F.slot_list_pop PySem.F.type_list_pop mt_pop ho (base_ok hb0) hl) fun Z H QV ⟨σ, S, Q, E, g, h, p, px⟩ => ?_) (fun _ => rfl) (fun ⟨_, _, _, z⟩ => by cases z)
  refine ⟨σ, S, _, E, g, h, fun x S1 v1 H1 h1 g1 e1 r1 => ⟨isLst_ty g1.st r1 h1.1, ?_⟩, px⟩
  have h2 := h1.2
  cases x <;> first | exact h2.elim | skip
  rename_i l
  cases r1
  dsimp only at h2
  split at h2
  · rename_i ws e
    obtain ⟨vs, hv, rv⟩ := g1.st _ _ e
    split at h2
    · rename_i w ew
      obtain ⟨v, hv2, rv2⟩ := rv.get ew
      exact ⟨l, vs, v, rfl, rfl, hv, by rw [← rv.length]; exact hv2, post_set (p.next e1) g1 e rv.dropLast rv2 h2⟩
    · exact h2.elim
  · exact h2.elim
theorem snd_pop1 {pos : Pos} (hl : (ap.endLine == pos.line) = true) (h1 : notStar a = true) (hb0 : baseOk r0 = true) (ho : PE X r0 (liftE X.K Wx ma)) (ha : PE X a (liftE X.K Wx mb)) :
    Snd X Wx (.Call (.Attribute r0 "pop" ap) [a] [] pos) (fun σ S Q E => ma σ S (fun x S1 => isLst x S1 ∧ mb σ S1 (fun y S2 => match x, y with
    | .ref a, .int j => (match S2 a with
      | some (.lst ws) => -(2 ^ 63) ≤ j ∧ j < 2 ^ 63 ∧ (match ixN ws.length j with
        | some k => (match ws[k]? with
          | some w => Q w (put S2 a (.lst (ws.eraseIdx k)))
          | none => False)
        | none => False)
      | _ => False)
    | _, _ => False) E) E) := by
  refine Snd.plain (pe_weak (pe_bm PySem.F.plainAttrs_list PySem.F.slot_list_pop PySem.F.type_list_pop mt_popAt ho (pa_cons ha pa_nil (star_cons h1)) (base_ok hb0) (bm_few h1) hl (star_cons h1) rfl) fun Z H QV ⟨σ, S, Q, E, g, h, p, px⟩ => ?_) (fun _ => rfl) (fun ⟨_, _, _, z⟩ => by cases z)
  refine ⟨σ, S, _, E, g, h, fun x S1 v1 H1 h1 g1 e1 r1 => ⟨isLst_ty g1.st r1 h1.1, ?_⟩, px⟩
  refine ⟨σ, S1, _, E, g1, h1.2, fun y S2 v2 H2 h2 g2 e2 r2 => ?_, px.next e1⟩
  cases x <;> first | exact h2.elim | skip
  cases y <;> first | exact h2.elim | skip
  rename_i l j
  cases r1; cases r2
  dsimp only at h2
  split at h2
  · rename_i ws e
    obtain ⟨vs, hv, rv⟩ := g2.st _ _ e
    obtain ⟨b1, b2, h2⟩ := h2
    split at h2
    · rename_i k ek
      split at h2
      · rename_i w ew
        obtain ⟨v, hv2, rv2⟩ := rv.get ew
        have z := ixN_seq ek
        rw [rv.length] at z
        exact ⟨l, vs, j, k, v, rfl, rfl, hv, b1, b2, z.1, hv2, post_set (p.next (e1.trans e2)) g2 e (rv.eraseIdx k) rv2 h2⟩
      · exact h2.elim
    · exact h2.elim
  · exact h2.elim
end
section
variable {X : Cx} {Wx : WX} {K : PySem.W.Frag} {σ : Envr} {S S1 S' : Sto} {Z : L2.St} {H H1 H' : Hp}
variable {a b c tg : Expr} {pos : Pos} {ma mb mc : MTE} {es : List Expr} {ml ml2 : Envr → Sto → LQ → XQ → Prop}
def iSeq (K : PySem.W.Frag) (tl : TE) : TI := fun σ H R => tl σ H fun x H1 => ∃ a, x = .ref a ∧ (((∃ xs, SqL K H1 a xs) ∧ R (Itl K a) H1) ∨ ((∃ xs, SqT K H1 a xs) ∧ R (Itt K a) H1))
theorem pi_seq {l : Expr} {tl : TE} (hl : PE X l tl) : PI X tg l (iSeq X.K tl) := by
  refine ⟨fun pins s σ H R I h => ?_⟩
  refine thn (hl.run pins s σ H _ I h) fun v s1 ⟨x, H1, I1, r1, q1⟩ => ?_
  obtain ⟨a, e, ⟨⟨xs, hq⟩, q⟩ | ⟨⟨xs, hq⟩, q⟩⟩ := q1
  · subst e
    cases r1
    obtain ⟨its, rv, p, hz⟩ := I1.list hq
    refine wpAny_pyIter_list p.isList ?_
    refine ⟨s1.heap.objs.size, [s1.heap.objs.size], _, _, H1, rfl, I1.kept (t' := s1.toks) fun b o e => Heap.get?_push_of_some _ e, turn_list a _, ⟨_, Heap.get?_push_size _ rfl, rfl, rfl⟩, fun b hb => ?_, q⟩
    have e : b = s1.heap.objs.size := by simpa using hb
    subst e
    exact I1.fpOk (Nat.le_refl _) (I1.hok.fresh (Nat.le_refl _))
  · subst e
    cases r1
    obtain ⟨its, rv, p, hz⟩ := I1.tuple hq
    refine wpAny_pyIter_tuple (show s1.heap.IsTuple a its.toArray from p) ?_
    refine ⟨s1.heap.objs.size, [s1.heap.objs.size], _, _, H1, rfl, I1.kept (t' := s1.toks) fun b o e => Heap.get?_push_of_some _ e, turn_tuple a _, ⟨_, Heap.get?_push_size _ rfl, rfl, rfl⟩, fun b hb => ?_, q⟩
    have e : b = s1.heap.objs.size := by simpa using hb
    subst e
    exact I1.fpOk (Nat.le_refl _) (I1.hok.fresh (Nat.le_refl _))
theorem walk_l {p : Addr} {ws : List W} {k : LK} {st : Sto → Prop} (r : Rdb K S H ws k st (.ref p)) (hk : k ≠ .tu) : Walk K S H ws st (Itl K p) := fun S2 H2 x2 g2 h2 => by
  obtain ⟨q, vs, e, r1, r2⟩ := (r.next x2 h2).now g2
  cases e
  have z := r2.sql hk
  refine ⟨fun i w hw => ?_, vs, z, by rw [r1.length]; exact Nat.le_refl _⟩
  obtain ⟨v, hv, rv⟩ := r1.get hw
  refine ⟨⟨vs, v, z, hv⟩, fun x H3 ⟨e3, hx⟩ => ?_⟩
  subst e3
  have := hx vs z
  rw [hv] at this; cases this
  exact ⟨g2, .refl, rv⟩
theorem walk_t {p : Addr} {ws : List W} {st : Sto → Prop} (r : Rdb K S H ws .tu st (.ref p)) : Walk K S H ws st (Itt K p) := fun S2 H2 x2 g2 h2 => by
  obtain ⟨q, vs, e, r1, r2⟩ := (r.next x2 h2).now g2
  cases e
  have z : SqT K H2 p vs := SqT.of r2
  refine ⟨fun i w hw => ?_, vs, z, by rw [r1.length]; exact Nat.le_refl _⟩
  obtain ⟨v, hv, rv⟩ := r1.get hw
  refine ⟨⟨vs, v, z, hv⟩, fun x H3 ⟨e3, hx⟩ => ?_⟩
  subst e3
  have := hx vs z
  rw [hv] at this; cases this
  exact ⟨g2, .refl, rv⟩
theorem walk_r {lo : Int} {n : Nat} : Walk K S H (rngW lo n) (fun _ => True) (Itr lo n) := fun S2 H2 x2 g2 h2 => by
  refine ⟨fun i w hw => ?_, ?_⟩
  · unfold rngW at hw
    rw [List.getElem?_map] at hw
    cases e : (List.range n)[i]? with
    | none => rw [e] at hw; cases hw
    | some j =>
      rw [e] at hw
      obtain ⟨h1, h2⟩ := List.getElem?_eq_some_iff.mp e
      rw [List.getElem_range] at h2
      subst h2
      rw [List.length_range] at h1
      cases hw
      refine ⟨h1, fun x H3 ⟨e3, hx⟩ => ?_⟩
      subst e3 hx
      exact ⟨g2, .refl, .int _⟩
  · show n ≤ _
    unfold rngW
    rw [List.length_map, List.length_range]
    exact Nat.le_refl _
theorem zip_get {xs ys : List W} {i : Nat} {w : W} (h : (zipW xs ys)[i]? = some w) : ∃ x y, xs[i]? = some x ∧ ys[i]? = some y ∧ w = .tup [x, y] := by
  unfold zipW at h
  rw [List.getElem?_zipWith] at h
  cases e1 : xs[i]? with
  | none => rw [e1] at h; cases h
  | some x =>
    cases e2 : ys[i]? with
    | none => rw [e1, e2] at h; cases h
    | some y => rw [e1, e2] at h; cases h; exact ⟨x, y, rfl, rfl, rfl⟩
theorem rep_pair {T : Addr} {x y : W} {u v : V} (g : StOk K S H) (hT : H T = none) (r1 : RepW K H x u) (r2 : RepW K H y v) : StOk K S (upd H T (.tup [u, v])) ∧ Ext S H S (upd H T (.tup [u, v])) ∧ RepW K (upd H T (.tup [u, v])) (.tup [x, y]) (.ref T) := by
  have e : Ext S H S (upd H T (.tup [u, v])) := Ext.fresh hT
  exact ⟨g.fresh hT, e, .tup upd_same (.cons (e.rep g r1) (.cons (e.rep g r2) .nil))⟩
theorem walk_z {p q : Addr} {xs ys : List W} {k1 k2 : LK} {st1 st2 : Sto → Prop} (r1 : Rdb K S H xs k1 st1 (.ref p)) (r2 : Rdb K S H ys k2 st2 (.ref q)) (h1 : k1 ≠ .tu) (h2 : k2 ≠ .tu) : Walk K S H (zipW xs ys) (fun S => st1 S ∧ st2 S) (Itz K p q) := fun S2 H2 x2 g2 hs => by
  obtain ⟨p', vs, e, a1, b1⟩ := (r1.next x2 hs.1).now g2
  cases e
  obtain ⟨q', us, e, a2, b2⟩ := (r2.next x2 hs.2).now g2
  cases e
  have z1 := b1.sql h1
  have z2 := b2.sql h2
  refine ⟨fun i w hw => ?_, vs, us, z1, z2, ?_⟩
  · obtain ⟨x, y, hx, hy, rfl⟩ := zip_get hw
    obtain ⟨v, hv, rv⟩ := a1.get hx
    obtain ⟨u, hu, ru⟩ := a2.get hy
    refine ⟨⟨vs, us, v, u, z1, z2, hv, hu⟩, ?_⟩
    rintro t H3 ⟨T, x', y', rfl, hT, rfl, q1, q2⟩
    have e1 := q1 vs z1
    have e2 := q2 us z2
    rw [hv] at e1; cases e1
    rw [hu] at e2; cases e2
    exact rep_pair g2 hT rv ru
  · unfold zipW
    rw [List.length_zipWith, ← a1.length, ← a2.length]
    omega
theorem walk_zt {p q : Addr} {xs ys : List W} {st1 st2 : Sto → Prop} (r1 : Rdb K S H xs .tu st1 (.ref p)) (r2 : Rdb K S H ys .tu st2 (.ref q)) : Walk K S H (zipW xs ys) (fun S => st1 S ∧ st2 S) (RZ.ItzT K p q) := fun S2 H2 x2 g2 hs => by
  obtain ⟨p', vs, e, a1, b1⟩ := (r1.next x2 hs.1).now g2
  cases e
  obtain ⟨q', us, e, a2, b2⟩ := (r2.next x2 hs.2).now g2
  cases e
  have z1 : SqT K H2 p vs := SqT.of b1
  have z2 : SqT K H2 q us := SqT.of b2
  refine ⟨fun i w hw => ?_, vs, us, z1, z2, ?_⟩
  · obtain ⟨x, y, hx, hy, rfl⟩ := zip_get hw
    obtain ⟨v, hv, rv⟩ := a1.get hx
    obtain ⟨u, hu, ru⟩ := a2.get hy
    refine ⟨⟨vs, us, v, u, z1, z2, hv, hu⟩, ?_⟩
    rintro t H3 ⟨T, x', y', rfl, hT, rfl, q1, q2⟩
    have e1 := q1 vs z1
    have e2 := q2 us z2
    rw [hv] at e1; cases e1
    rw [hu] at e2; cases e2
    exact rep_pair g2 hT rv ru
  · unfold zipW
    rw [List.length_zipWith, ← a1.length, ← a2.length]
    omega
theorem walk_e {p : Addr} {xs : List W} {k : LK} {st : Sto → Prop} (r : Rdb K S H xs k st (.ref p)) (hk : k ≠ .tu) : Walk K S H (enmW xs) st (Ite K p) := fun S2 H2 x2 g2 hs => by
  obtain ⟨p', vs, e, a1, b1⟩ := (r.next x2 hs).now g2
  cases e
  have z1 := b1.sql hk
  refine ⟨fun i w hw => ?_, vs, z1, ?_⟩
  · unfold enmW at hw
    rw [List.getElem?_zipWith] at hw
    cases e2 : xs[i]? with
    | none => rw [e2] at hw; cases h : (List.range xs.length)[i]? <;> (rw [h] at hw; cases hw)
    | some x =>
      have hi : i < xs.length := (List.getElem?_eq_some_iff.mp e2).1
      rw [e2, List.getElem?_range hi] at hw
      cases hw
      obtain ⟨v, hv, rv⟩ := a1.get e2
      refine ⟨⟨vs, v, z1, hv⟩, ?_⟩
      rintro t H3 ⟨T, x', rfl, hT, rfl, q1⟩
      have e1 := q1 vs z1
      rw [hv] at e1; cases e1
      exact rep_pair g2 hT (.int _) rv
  · unfold enmW
    rw [List.length_zipWith, List.length_range, ← a1.length]
    omega
theorem pi_lstL (ha : PE X a (liftL X.K Wx ml)) : PI X tg a (liftI X.K Wx fun σ S Q E => ml σ S (fun ws _ st S1 => Q ws st S1) E) := by
  refine pi_weak (pi_seq ha) fun Z H R ⟨σ, S, Q, E, g, h, p, px⟩ => ?_
  refine ⟨σ, S, _, E, g, h, fun ws k st S1 v H1 h1 g1 e1 r1 => ?_, px⟩
  obtain ⟨q, vs, rfl, rr, ka⟩ := r1.now g1.st
  refine ⟨q, rfl, ?_⟩
  cases k with
  | ls => exact .inl ⟨⟨vs, SqL.of ka⟩, p _ _ _ _ _ h1 g1 e1 (walk_l r1 (fun z => by cases z))⟩
  | ro => exact .inl ⟨⟨vs, ka⟩, p _ _ _ _ _ h1 g1 e1 (walk_l r1 (fun z => by cases z))⟩
  | tu => exact .inr ⟨⟨vs, SqT.of ka⟩, p _ _ _ _ _ h1 g1 e1 (walk_t r1)⟩
theorem pi_rngL {p : Pos} (hg : Gl X "range") (hm : X.mg "range" = none) (h1 : notStar a = true) (ha : PE X a (liftE X.K Wx ma)) :
    PI X tg (.Call (.Name "range" p) [a] [] pos) (liftI X.K Wx fun σ S Q E => ma σ S (fun x S1 => match x with
    | .int n => rngOk n ∧ Q (rngW 0 n.toNat) (fun _ => True) S1
    | _ => False) E) := by
  refine pi_weak (pi_range1 hg hm (pa_cons ha pa_nil (star_cons h1)) (by rw [star_cons h1]; rfl)) fun Z H R ⟨σ, S, Q, E, g, h, p, px⟩ => ?_
  refine ⟨σ, S, _, E, g, h, fun w S1 v H1 q g1 e1 r1 => ?_, px⟩
  cases w <;> first | exact q.elim | skip
  cases r1
  exact ⟨_, rfl, q.1.1, q.1.2, p _ _ _ _ _ q.2 g1 e1 walk_r⟩
theorem turn_rangeL {P : Program} {w : World} {K : PySem.W.Frag} {tg : Expr} (it : Addr) (lo : Int) (n : Nat) : Turn P w K tg (Itr lo n) [it] it (fun i h => IsLongIter h it (lo + (i : Nat) * 1) ((n : Int) - (i : Nat)) 1) where
  mem := by simp
  obj := fun i h st b hb => by
    have e : b = it := by simpa using hb
    subst e
    exact ⟨_, st, fun v z => by
      have z' : Data.fields _ = Data.cell v := z
      cases z'⟩
  keep := fun i h h' st k => k it (by simp) _ st
  item := by
    intro X hP hw hK hc i pins s σ H E I hf st hg
    subst hP hw hK
    obtain ⟨f0, f1, f2, f3, f4, f5⟩ := hf it (by simp)
    have W := Walks.longrange (prog := X.prog) (w := X.w) (I.ok.hd hc) it lo 1 n
    refine W.item i s _ _ hg st fun v h' tk hv st' kk => ?_
    obtain ⟨t, rfl⟩ := hv
    have I1 : Inv X pins σ H { s with heap := h', toks := tk } := I.turned (fun b o hb e => kk b o (by simpa using hb) e) f0 f1 f3 f4 f5
    refine ⟨_, rfl, go_of (s := { s with heap := h', toks := tk }) (n := "longrange_iterator") st' rfl rfl (by decide) ⟨.int (lo + i), H, I1, ⟨t, ?_⟩, ⟨rfl, rfl⟩, st', fun b hb => (hf b hb).1⟩⟩
    rw [Int.mul_one]
  done := by
    intro X hP hw hK hc i pins s σ H E I hf st hg
    subst hP hw hK
    obtain ⟨f0, f1, f2, f3, f4, f5⟩ := hf it (by simp)
    exact wpAny_pyNext_long_end (I.ok.hd hc) st (by have : n ≤ i := hg; omega) fun h' eb => ⟨rfl, I.turned (t' := s.toks) (fun b o hb e => eb b o hb e) f0 f1 f3 f4 f5⟩
  self := fun _ _ _ _ _ st h => wpAny_pyIter_longiter st h
theorem range_itW {pins : List (Addr × Obj)} {s : Shared} {R : It → Hp → Prop} {E : Value → Shared → Prop} {σ : L2.St} {lo hi : Int} {t u v : Tok} {tk : Nat} (I : Inv X pins σ H s)
    (q : R (Itr lo (hi - lo).toNat) H) : wpAny (model X.prog X.w) X.A (pyIter (.ref s.heap.objs.size)) (PIE X pins σ tg R) E { s with heap := s.heap.push { cls := .type "range", data := .fields #[.int lo t, .int hi u, .int 1 v] }, toks := tk } := by
  have I1 : Inv X pins σ H { s with heap := s.heap.push { cls := .type "range", data := .fields #[.int lo t, .int hi u, .int 1 v] }, toks := tk } := I.kept fun b o e => Heap.get?_push_of_some _ e
  have e1 : lo + ((0 : Nat) : Int) * 1 = lo := by simp
  have e2 : (((hi - lo).toNat : Nat) : Int) - ((0 : Nat) : Int) = Builtin.Range.rangeSize lo hi 1 := by rw [rangeSize_one]; split <;> omega
  cases hs : Builtin.Range.small lo hi 1 with
  | true =>
    refine wpAny_pyIter_range (IsRange.new ..) hs ?_
    refine pi_one (tk := tk) I1 _ (turn_range _ lo (hi - lo).toNat) ?_ q
    show IsRangeIter _ _ (lo + ((0 : Nat) : Int) * 1) ((((hi - lo).toNat : Nat) : Int) - ((0 : Nat) : Int)) 1
    rw [e1, e2]
    exact Heap.get?_push_size _ rfl
  | false =>
    refine wpAny_pyIter_longrange (IsRange.new ..) hs ?_
    refine pi_one (tk := tk) I1 _ (turn_rangeL _ lo (hi - lo).toNat) ?_ q
    show IsLongIter _ _ (lo + ((0 : Nat) : Int) * 1) ((((hi - lo).toNat : Nat) : Int) - ((0 : Nat) : Int)) 1
    rw [e1, e2]
    exact Heap.get?_push_size _ rfl
def iRng2W (ta : TA) : TI := fun σ H R => ta σ H fun vs H1 => ∃ i j : Int, vs = [.int i, .int j] ∧ R (Itr i (j - i).toNat) H1
theorem pi_range2W {ta : TA} {p pos : Pos} (hg : Gl X "range") (hm : X.mg "range" = none) (ha : PA X [a, b] ta) (hs : starEach [a, b] X.env = [(false, eval a X.env), (false, eval b X.env)] := by rfl) (hs2 : starEach [b] X.env = [(false, eval b X.env)] := by rfl) :
    PI X tg (.Call (.Name "range" p) [a, b] [] pos) (iRng2W ta) := by
  refine ⟨fun pins s σ H R I h => ?_⟩
  refine Call_ (ld_blt I hg hm boot_range (PyProof.Rows.callWith_type1 (thn (ha.run pos pins s σ H _ I h) fun us s1 ⟨vs, H1, I1, r1, q1⟩ => ?_) (by rw [hs, hs2]) (by rw [hs2]; rfl)))
  obtain ⟨i, j, e, q⟩ := q1
  subst e
  cases r1 with
  | cons r rr =>
    cases rr with
    | cons r' rr =>
      cases rr
      obtain ⟨t, rfl⟩ := r
      obtain ⟨t', rfl⟩ := r'
      exact call_range_2 (range_itW I1 q)
theorem pi_rng2L {p : Pos} (hg : Gl X "range") (hm : X.mg "range" = none) (h1 : notStar a = true) (h2 : notStar b = true) (ha : PE X a (liftE X.K Wx ma)) (hb : PE X b (liftE X.K Wx mb)) :
    PI X tg (.Call (.Name "range" p) [a, b] [] pos) (liftI X.K Wx fun σ S Q E => ma σ S (fun x S1 => mb σ S1 (fun y S2 => match x, y with
    | .int i, .int j => rngOk2 i ∧ rngOk2 j ∧ Q (rngW i (j - i).toNat) (fun _ => True) S2
    | _, _ => False) E) E) := by
  refine pi_weak (pi_range2W hg hm (pa_cons ha (pa_cons hb pa_nil (star_cons h2)) (star_cons h1)) (by rw [star_cons h1, star_cons h2]; rfl) (by rw [star_cons h2]; rfl)) fun Z H R ⟨σ, S, Q, E, g, h, p, px⟩ => ?_
  refine ⟨σ, S, _, E, g, h, fun w S1 v H1 q g1 e1 r1 => ?_, px⟩
  refine ⟨σ, S1, _, E, g1, q, fun u S2 t H2 q2 g2 e2 r2 => ?_, px.next e1⟩
  cases w <;> first | exact q2.elim | skip
  cases u <;> first | exact q2.elim | skip
  cases r1; cases r2
  exact ⟨_, _, rfl, p _ _ _ _ _ q2.2.2 g2 (e1.trans e2) walk_r⟩
theorem pi_zipL {tgs : List Expr} {kk : Nat} {tpos p : Pos} (hg : Gl X "zip") (hm : X.mg "zip" = none) (h1 : notStar a = true) (h2 : notStar b = true) (ha : PE X a (liftL X.K Wx ml)) (hb : PE X b (liftL X.K Wx ml2)) :
    PI X (.Tuple tgs kk tpos) (.Call (.Name "zip" p) [a, b] [] pos) (liftI X.K Wx fun σ S Q E => ml σ S (fun xs k1 s1 S1 => ml2 σ S1 (fun ys k2 s2 S2 => ((k1 ≠ .tu ∧ k2 ≠ .tu) ∨ (k1 = .tu ∧ k2 = .tu)) ∧ s1 S2 ∧ Q (zipW xs ys) (fun S => s1 S ∧ s2 S) S2) E) E) := by
  refine pi_weak (RZ.pi_zipA hg hm (pa_cons ha (pa_cons hb pa_nil (star_cons h2)) (star_cons h1)) (star_cons h1) (by rw [star_cons h2]; rfl)) fun Z H R ⟨σ, S, Q, E, g, h, p, px⟩ => ?_
  refine ⟨σ, S, _, E, g, h, fun xs k1 s1 S1 v H1 q g1 e1 r1 => ?_, px⟩
  refine ⟨σ, S1, _, E, g1, q, fun ys k2 s2 S2 t H2 q2 g2 e2 r2 => ?_, px.next e1⟩
  obtain ⟨hk, hst, hq⟩ := q2
  have r1' := r1.next e2 hst
  obtain ⟨p1, vs, rfl, rr1, ka1⟩ := r1'.now g2.st
  obtain ⟨p2, us, rfl, rr2, ka2⟩ := r2.now g2.st
  rcases hk with ⟨t1, t2⟩ | ⟨t1, t2⟩
  · exact ⟨p1, p2, vs, us, rfl, .inl ⟨ka1.sql t1, ka2.sql t2, p _ _ _ _ _ hq g2 (e1.trans e2) (walk_z r1' r2 t1 t2)⟩⟩
  · subst t1 t2
    exact ⟨p1, p2, vs, us, rfl, .inr ⟨SqT.of ka1, SqT.of ka2, p _ _ _ _ _ hq g2 (e1.trans e2) (walk_zt r1' r2)⟩⟩
theorem pi_enmL {tgs : List Expr} {kk : Nat} {tpos p : Pos} (hg : Gl X "enumerate") (hm : X.mg "enumerate" = none) (h1 : notStar a = true) (ha : PE X a (liftL X.K Wx ml)) :
    PI X (.Tuple tgs kk tpos) (.Call (.Name "enumerate" p) [a] [] pos) (liftI X.K Wx fun σ S Q E => ml σ S (fun xs k st S1 => k ≠ .tu ∧ Q (enmW xs) st S1) E) := by
  refine pi_weak (pi_enum hg hm (pa_cons ha pa_nil (star_cons h1)) (by rw [star_cons h1]; rfl)) fun Z H R ⟨σ, S, Q, E, g, h, p, px⟩ => ?_
  refine ⟨σ, S, _, E, g, h, fun xs k st S1 v H1 q g1 e1 r1 => ?_, px⟩
  obtain ⟨p1, vs, rfl, rr1, ka1⟩ := r1.now g1.st
  exact ⟨p1, vs, rfl, ka1.sql q.1, p _ _ _ _ _ q.2 g1 e1 (walk_e r1 q.1)⟩
theorem pg_nmL {x : Str} {i : Nat} (hN : X.N.Nodup) (hi : X.N[i]? = some x) (hx : Loc X.env.scope x) (hf : X.fn x = true ∨ X.env.scope.names.lookup x = some .local) :
    PG X (.Name x pos) (liftG X.K [i] fun w σ S Q _ => Q (σ.set i (some w)) S) :=
  pg_weak (pg_name hN hi hx hf) fun v Z H Q ⟨w, σ, S, QM, g, r, h, p⟩ => p _ _ _ _ h (g.set r i) .refl ⟨by simp, fun j hj => List.getElem?_set_ne (fun z => hj (by rw [z]; exact List.mem_singleton_self _))⟩
theorem pgs_nilL : PGs X [] (liftGs X.K [] fun ws σ S Q _ => match ws with
    | [] => Q σ S
    | _ => False) := pgs_weak pgs_nil fun vs Z H Q ⟨ws, σ, S, QM, g, r, h, p⟩ => by
  cases r with
  | nil => exact ⟨rfl, p _ _ _ _ h g .refl ⟨rfl, fun _ _ => rfl⟩⟩
  | cons _ _ => exact h.elim
variable {mg : W → Envr → Sto → (Envr → Sto → Prop) → XQ → Prop} {mgs : List W → Envr → Sto → (Envr → Sto → Prop) → XQ → Prop}
theorem asg_cons (h : notStar a = true) : (assignEach (a :: es) X.env) = (false, assign a X.env) :: assignEach es X.env := by
  cases a <;> first | rfl | (simp [notStar] at h)
theorem pgs_consL {sl1 sl2 : List Nat} (hn : notStar a = true) (h1 : PG X a (liftG X.K sl1 mg)) (h2 : PGs X es (liftGs X.K sl2 mgs)) : PGs X (a :: es) (liftGs X.K (sl1 ++ sl2) fun ws σ S Q E => match ws with
    | w :: r => mg w σ S (fun σ' S' => mgs r σ' S' Q E) E
    | _ => False) := by
  refine pgs_weak (pgs_cons h1 h2 (by rw [asg_cons hn]; rfl)) fun vs Z H Q ⟨ws, σ, S, QM, g, r, h, p⟩ => ?_
  cases r with
  | nil => exact h.elim
  | cons r1 rr =>
    refine ⟨_, _, rfl, _, σ, S, _, g, r1, h, fun σ' S' Z' H' q g' e' o' => ?_⟩
    exact ⟨_, σ', S', QM, g', e'.reps g.st rr, q, fun σ2 S2 Z2 H2 q2 g2 e2 o2 => p _ _ _ _ q2 g2 (e'.trans e2) ⟨o2.1.trans o'.1, fun j hj => by
      rw [List.mem_append, not_or] at hj
      rw [o2.2 j hj.2, o'.2 j hj.1]⟩⟩
theorem asg_len : ∀ {es : List Expr} , (assignEach es X.env).length = es.length
  | [] => rfl
  | a :: es => by
    have ih := @asg_len es
    cases a <;> (show (assignEach es X.env).length + 1 = es.length + 1; rw [ih])
theorem asg_star : ∀ {es : List Expr}, noStars es = true → (assignEach es X.env).findIdx? (·.1) = none
  | [], _ => rfl
  | a :: es, h => by
    simp only [noStars, List.all_cons, Bool.and_eq_true] at h
    rw [asg_cons h.1, List.findIdx?_cons, asg_star (es := es) h.2]; rfl
theorem pg_tupL {k n : Nat} {sl : List Nat} (hc : X.calm = true) (hs : noStars es = true) (hl : es.length = n) (h : PGs X es (liftGs X.K sl mgs)) : PG X (.Tuple es k pos) (liftG X.K sl fun w σ S Q E => match w with
    | .tup ws => ws.length = n ∧ mgs ws σ S Q E
    | _ => False) := by
  refine pg_weak (pg_tup (n := n) hc h (by rw [asg_len]; exact hl) (asg_star hs)) fun v Z H Q ⟨w, σ, S, QM, g, r, h, p⟩ => ?_
  cases w <;> first | exact h.elim | skip
  cases r with
  | tup q rr => exact ⟨_, _, rfl, SqT.of q, by rw [← rr.length]; exact h.1, _, σ, S, QM, g, rr, h.2, p⟩
theorem pg_unlL {k n : Nat} {sl : List Nat} (hc : X.calm = true) (hs : noStars es = true) (hl : es.length = n) (h : PGs X es (liftGs X.K sl mgs)) : PG X (.Tuple es k pos) (liftG X.K sl fun w σ S Q E => match w with
    | .ref a => (match S a with
      | some (.lst ws) => ws.length = n ∧ mgs ws σ S Q E
      | _ => False)
    | _ => False) := by
  refine pg_weak (pg_unl (n := n) hc h (by rw [asg_len]; exact hl) (asg_star hs)) fun v Z H Q ⟨w, σ, S, QM, g, r, h, p⟩ => ?_
  cases w <;> first | exact h.elim | skip
  cases r
  dsimp only at h
  split at h
  · rename_i ws e
    obtain ⟨vs, e1, rr⟩ := g.st _ _ e
    exact ⟨_, _, rfl, SqL.of e1, by rw [← rr.length]; exact h.1, _, σ, S, QM, g, rr, h.2, p⟩
  · exact h.elim
theorem StOk.setDk {p : Addr} {kvs : List (Key × W)} {kvs0 : List (Key × W)} {vs : List (Key × V)} (g : StOk K S H) (h : S p = some (.dk false kvs0)) (r : RepF K H kvs vs) : StOk K (put S p (.dk false kvs)) (upd H p (.dK vs)) := by
  have x : Ext S H (put S p (.dk false kvs)) (upd H p (.dK vs)) := Ext.write (by rw [h]; exact fun z => by cases z) (g.nfK h)
  exact g.put_at x (fun a v h e => by rw [upd_ne h]; exact e) ⟨vs, upd_same, r.mono (x.stay g)⟩
theorem StOk.setDt {p : Addr} {kvs : List (List Key × W)} {kvs0 : List (List Key × W)} {vs : List (List Key × V)} (g : StOk K S H) (h : S p = some (.dt false kvs0)) (r : RepF K H kvs vs) : StOk K (put S p (.dt false kvs)) (upd H p (.dT vs)) := by
  have x : Ext S H (put S p (.dt false kvs)) (upd H p (.dT vs)) := Ext.write (by rw [h]; exact fun z => by cases z) (g.nfT h)
  exact g.put_at x (fun a v h e => by rw [upd_ne h]; exact e) ⟨vs, upd_same, r.mono (x.stay g)⟩
theorem setW_of {x y w : W} {vx vy v : V} {Q : Sto → Prop} {QH : Hp → Prop} (g : StOk K S H) (rx : RepW K H x vx) (ry : RepW K H y vy) (r : RepW K H w v) (h : setW x y w S Q) (p : ∀ S' H', Q S' → StOk K S' H' → Ext S H S' H' → QH H') :
    rSetL vx vy v H QH ∨ rSetD vx vy v H QH ∨ rSetN vx vy v H QH := by
  cases x <;> first | exact h.elim | skip
  rename_i l
  cases rx
  unfold setW at h
  dsimp only at h
  split at h
  · rename_i ws e
    obtain ⟨vs, hv, rv⟩ := g _ _ e
    cases y <;> first | exact h.elim | skip
    rename_i i
    cases ry
    dsimp only at h
    split at h
    · rename_i j ej
      have x : Ext S H (put S l (.lst (ws.set j w))) (upd H l (.lst (vs.set j v))) := Ext.write (by rw [e]; exact fun z => by cases z) (g.nfL e)
      exact .inl ⟨l, vs, i, j, rfl, rfl, hv, by rw [← rv.length]; exact ej, p _ _ h (g.setLst e (rv.set r j)) x⟩
    · exact h.elim
  · rename_i kvs e
    obtain ⟨vs, hv, rv⟩ := g _ _ e
    split at h
    · rename_i k ek
      have rv2 := rv.put (k := k) r
      have x : Ext S H (put S l (.dk false (putD kvs k w))) (upd H l (.dK (putK vs k v))) := Ext.write (by rw [e]; exact fun z => by cases z) (g.nfK e)
      exact .inr (.inl ⟨l, _, rfl, .inl ⟨vs, k, hv, keyW_rep ry ek, by rw [← rv.length]; exact h.1, rfl⟩, p _ _ h.2 (g.setDk e rv2) x⟩)
    · exact h.elim
  · rename_i kvs e
    obtain ⟨vs, hv, rv⟩ := g _ _ e
    split at h
    · rename_i k ek
      have rv2 := rv.put (k := k) r
      obtain ⟨b, e2, e3⟩ := tkeyW_rep ry ek
      have x : Ext S H (put S l (.dt false (putD kvs k w))) (upd H l (.dT (putK vs k v))) := Ext.write (by rw [e]; exact fun z => by cases z) (g.nfT e)
      exact .inr (.inl ⟨l, _, rfl, .inr ⟨vs, k, b, hv, e2, e3, by rw [← rv.length]; exact h.1, rfl⟩, p _ _ h.2 (g.setDt e rv2) x⟩)
    · exact h.elim
  · rename_i kvs e
    obtain ⟨xs, vs, n, rv⟩ := g _ _ e
    split at h
    · rename_i k ek
      refine .inr (.inr ⟨l, xs, vs, k, rfl, n, nkW_rep ry ek, fun xs' r' => ?_⟩)
      have x : Ext S H (put S l (.dn (putD kvs k w))) (upd H l (NdO l xs')) := Ext.write (by rw [e]; exact fun z => by cases z) (g.nfN e)
      have rv2 : RepF K (upd H l (NdO l xs')) (putD kvs k w) (putK vs k v) := (rv.put (k := k) r).mono (x.stay g)
      have nd2 : ((putK vs k v).map (·.1)).Nodup := by rw [← rv2.keys]; exact putD_keys (by rw [rv.keys]; exact n.nd)
      exact p _ _ h.2 (g.put_at x (fun a v h e => by rw [upd_ne h]; exact e) ⟨xs', _, ⟨upd_same, r', nd2, by rw [← rv2.length]; have := putD_le (kvs := kvs) (k := k) (w := w); have := h.1; omega⟩, rv2⟩) x
    · exact h.elim
  · exact h.elim
theorem pg_subL (hu : X.A.units + 64 < cLine) (hs : notSlice b = true) (ho : PE X a (liftE X.K Wx ma)) (hi : PE X b (liftE X.K Wx mb)) : PG X (.Subscript a b pos) (liftG X.K [] fun w σ S Q E => ma σ S (fun x S1 => mb σ S1 (fun y S2 => setW x y w S2 (Q σ)) E) E) := by
  refine pg_weak (pg_sub ho hi (PSet.or set_list (PSet.or (set_dict (by omega)) (set_nd (by omega)))) (by intro v; cases b <;> first | rfl | (simp [notSlice] at hs))) fun v Z H Q ⟨w, σ, S, QM, g, r, h, p⟩ => ?_
  refine ⟨σ, S, _, noX, g, h, fun x S1 v1 H1 h1 g1 e1 r1 => ?_, PostX.no⟩
  refine ⟨σ, S1, _, noX, g1, h1, fun y S2 v2 H2 h2 g2 e2 r2 => ?_, PostX.no⟩
  exact setW_of g2.st (e2.rep g1.st r1) r2 ((e1.trans e2).rep g.st r) h2 fun S' H' q s x => p _ _ _ _ q (g2.next x s) ((e1.trans e2).trans x) ⟨rfl, fun _ _ => rfl⟩
end
section
variable {K : PySem.W.Frag} {σ : Envr} {S S1 S' : Sto} {Z : L2.St} {H H1 H' : Hp}
theorem wipe_get (Z : L2.St) (i : Nat) : ∀ vs : List Nat, (L2.wipe Z vs)[i]? = if i ∈ vs ∧ i < Z.length then some none else Z[i]?
  | [] => by simp [L2.wipe]
  | v :: vs => by
    have ih := wipe_get Z i vs
    unfold L2.wipe
    rw [List.getElem?_set, ih, wipe_length]
    by_cases h : v = i
    · subst h
      by_cases hl : v < Z.length <;> simp [hl]
    · have h' : ¬ i = v := fun z => h z.symm
      simp [h, h']
theorem wipeW_get (σ : Envr) (i : Nat) : ∀ vs : List Nat, (wipeW σ vs).length = σ.length ∧ (wipeW σ vs)[i]? = if i ∈ vs ∧ i < σ.length then some none else σ[i]?
  | [] => by simp [wipeW]
  | v :: vs => by
    obtain ⟨il, ih⟩ := wipeW_get σ i vs
    unfold wipeW
    refine ⟨by rw [List.length_set, il], ?_⟩
    rw [List.getElem?_set, ih, il]
    by_cases h : v = i
    · subst h
      by_cases hl : v < σ.length <;> simp [hl]
    · have h' : ¬ i = v := fun z => h z.symm
      simp [h, h']
theorem Gd.wipe (g : Gd K σ S Z H) (vs : List Nat) : Gd K (wipeW σ vs) S (L2.wipe Z vs) H where
  len := by rw [(wipeW_get σ 0 vs).1, wipe_length]; exact g.len
  sl := fun i w e => by
    rw [(wipeW_get σ i vs).2] at e
    rw [wipe_get, ← g.len]
    split at e
    · cases e
    · rename_i h
      rw [if_neg h]
      exact g.sl i w e
  st := g.st
theorem wipe_eq {Z Z' : L2.St} {sl vs : List Nat} (h : OutEq sl (L2.wipe Z vs) Z') (hs : ∀ i ∈ sl, i ∈ vs) : L2.wipe Z' vs = L2.wipe Z vs := by
  have hl : Z'.length = Z.length := by rw [h.1, wipe_length]
  refine List.ext_getElem? fun i => ?_
  rw [wipe_get, wipe_get, hl]
  by_cases hi : i ∈ vs
  · by_cases hz : i < Z.length
    · simp [hi, hz]
    · have e1 : Z'[i]? = none := List.getElem?_eq_none (by omega)
      have e2 : Z[i]? = none := List.getElem?_eq_none (by omega)
      simp [hi, hz]
      omega
  · have e := h.2 i (fun z => hi (hs i z))
    rw [wipe_get] at e
    simp only [hi, false_and, if_false] at e ⊢
    exact e
theorem Stay.out {D : Addr} {vs us : List V} (h : H D = some (.lst vs)) : Stay K H (upd H D (.lst us)) := by
  refine ⟨fun a xs q => ?_, fun a xs q => ?_⟩
  · have : a ≠ D := fun z => by rw [z, h] at q; cases q
    rw [upd_ne this]; exact q
  · rcases q with ⟨o, q⟩ | q
    · have : a ≠ D := fun z => by rw [z, h] at q; cases q
      exact .inl ⟨o, by rw [upd_ne this]; exact q⟩
    · exact .inr q
theorem RepO.stay {o : MO} {a : Addr} (r : RepO K H o a) (s : Stay K H H') (n : ∀ v, H a = some v → H' a = some v) : RepO K H' o a := by
  cases o with
  | lst ws => obtain ⟨vs, e, t⟩ := r; exact ⟨vs, n _ e, t.mono s⟩
  | ins C fs => obtain ⟨dx, vs, e, t⟩ := r; exact ⟨dx, vs, n _ e, t.mono s⟩
  | dk fz kvs =>
    obtain ⟨vs, e, t⟩ := r
    refine ⟨vs, ?_, t.mono s⟩
    cases fz with
    | false => exact n _ e
    | true => obtain ⟨o, e⟩ := e; exact ⟨o, n _ e⟩
  | dt fz kvs =>
    obtain ⟨vs, e, t⟩ := r
    refine ⟨vs, ?_, t.mono s⟩
    cases fz with
    | false => exact n _ e
    | true => obtain ⟨o, e⟩ := e; exact ⟨o, n _ e⟩
  | dn kvs => obtain ⟨xs, vs, e, t⟩ := r; exact ⟨xs, vs, e.mono s n, t.mono s⟩
theorem StOk.out {D : Addr} {vs us : List V} (g : StOk K S H) (hS : S D = none) (h : H D = some (.lst vs)) : StOk K S (upd H D (.lst us)) := fun a o e => by
  have : a ≠ D := fun z => by rw [z, hS] at e; cases e
  exact (g a o e).stay (Stay.out h) fun v q => by rw [upd_ne this]; exact q
theorem Ext.out {D : Addr} {o : HO} (x : Ext S H S' H') (h : H D = none) : Ext S H S' (upd H' D o) :=
  ⟨fun a u e n => by rw [upd_ne (ne_of_none e h)]; exact x.fr a u e n, x.dm, fun a n => upd_th (x.th a n), fun a _ _ e => by rw [upd_ne (ne_of_none e h)]; exact x.fz a _ _ e⟩
theorem Ext.keepNone (x : Ext S H S' H') {a : Addr} {o : HO} (hS : S a = none) (h : H a = some o) : S' a = none ∧ H' a = some o := by
  refine ⟨?_, x.fr a o h hS⟩
  cases q : S' a with
  | none => rfl
  | some m =>
    rcases x.dm a (by rw [q]; exact fun z => by cases z) with z | z
    · exact (z hS).elim
    · rw [z] at h; cases h
end
section
variable {X : Cx} {Wx : WX} {σ : Envr} {S : Sto} {Z : L2.St} {H : Hp}
variable {elt tg iter t : Expr} {scope : Scope} {pos : Pos} {own : List Nat} {sl : List Nat}
variable {mi : Envr → Sto → (List W → (Sto → Prop) → Sto → Prop) → XQ → Prop} {mg : W → Envr → Sto → (Envr → Sto → Prop) → XQ → Prop} {me mc : MTE}
abbrev noW : WX := fun _ _ _ _ => False
def mComp (mi : Envr → Sto → (List W → (Sto → Prop) → Sto → Prop) → XQ → Prop) (mg : W → Envr → Sto → (Envr → Sto → Prop) → XQ → Prop) (mb : List W → (List W → Sto → Prop) → (List W → Sto → Prop) → Envr → Sto → Prop) (own : List Nat) : Envr → Sto → (List W → Sto → Prop) → XQ → Prop := fun σ S Q E =>
  mi σ S (fun xs st S1 => ∃ I : Nat → List W → Sto → Prop, (∃ S2, Sub S2 S1 ∧ I 0 [] S2) ∧
      (∀ k acc S3 x, xs[k]? = some x → I k acc S3 → st S3 ∧ mg x (wipeW σ own) S3 (fun σ' S4 => mb acc (I (k + 1)) (I (k + 1)) σ' S4) noX) ∧
      ∀ acc S3, I xs.length acc S3 → st S3 ∧ Q acc S3) E
theorem lift_comp {wi : TI} {g : TG} {tt : TT} {te : TE} {mb : List W → (List W → Sto → Prop) → (List W → Sto → Prop) → Envr → Sto → Prop}
    (hi : ∀ Z H R, liftI X.K Wx mi Z H R → wi Z H R) (hg : ∀ v Z H Q, liftG X.K sl mg v Z H Q → g v Z H Q) (hsl : ∀ i ∈ sl, i ∈ own)
    (turn : ∀ (acc : List W) (vacc : List V) (D : Addr) (I : List W → Sto → Prop) (σ : Envr) (S : Sto) (Z : L2.St) (H : Hp) (Nx : Hp → Prop), Gd X.K σ S Z H → S D = none → H D = some (.lst vacc) → RepWs X.K H acc vacc → mb acc I I σ S →
      (∀ acc' vacc' S' H', I acc' S' → StOk X.K S' H' → S' D = none → H' D = some (.lst vacc') → RepWs X.K H' acc' vacc' → (∀ S0 H0, Ext S0 H0 S H → H0 D = none → Ext S0 H0 S' H') → Nx H') →
      tt Z H fun b H3 => if b = true then te Z H3 fun y H4 => ∃ acc, H4 D = some (.lst acc) ∧ acc.length < sizeLine ∧ Nx (upd H4 D (.lst (acc ++ [y]))) else Nx H3) :
    ∀ Z H QV, liftT X.K Wx (mComp mi mg mb own) Z H QV → tLc wi g tt te own Z H QV := by
  rintro Z H QV ⟨σ, S, Q, E, gd, hm, p, px⟩
  refine hi _ _ _ ⟨σ, S, _, E, gd, hm, fun xs st S1 J H1 ⟨I, ⟨S2, sub, h0⟩, hstep, hend⟩ g1 e1 wk D hD => ?_, px⟩
  have hSD : S1 D = none := g1.st.free hD
  refine ⟨fun i m H' => m = xs.length - i ∧ i ≤ xs.length ∧ ∃ acc S' vacc, H' D = some (.lst vacc) ∧ RepWs X.K H' acc vacc ∧ S' D = none ∧ StOk X.K S' H' ∧ Ext S1 H1 S' H' ∧ I i acc S', ⟨xs.length, by simp, Nat.zero_le _, [], S2, [], upd_same, .nil, ?_, ?_, ?_, h0⟩, ?_⟩
  · cases q : S2 D with
    | none => rfl
    | some o => rw [sub D o q] at hSD; cases hSD
  · exact (g1.st.fresh hD).sub sub
  · exact (Ext.fresh hD).trans (Ext.sub sub)
  · rintro i m H' ⟨rfl, hi', acc, S', vacc, hd, ra, hsd, sok, x1, hI⟩
    by_cases hlt : i < xs.length
    · have hx : xs[i]? = some xs[i] := by simp [hlt]
      obtain ⟨hst, hgt⟩ := hstep i acc S' _ hx hI
      obtain ⟨hgo, hy⟩ := (wk S' H' x1 sok hst).1 i _ hx
      refine .inr ⟨hgo, fun H'' => ∃ acc S' vacc, H'' D = some (.lst vacc) ∧ RepWs X.K H'' acc vacc ∧ S' D = none ∧ StOk X.K S' H'' ∧ Ext S1 H1 S' H'' ∧ I (i + 1) acc S', fun H'' n => ⟨xs.length - (i + 1), by omega, rfl, hlt, n⟩, fun v H3 hyl => ?_⟩
      obtain ⟨s3, x3, r3⟩ := hy v H3 hyl
      have gw : Gd X.K (wipeW σ own) S' (L2.wipe Z own) H3 := (gd.wipe own).next ((e1.trans x1).trans x3) s3
      refine hg _ _ _ _ ⟨_, _, S', _, gw, r3, hgt, fun σ4 S4 Z4 H4 hb g4 e4 o4 => ⟨wipe_eq o4 hsl, ?_⟩⟩
      obtain ⟨k1, k2⟩ := x3.keepNone hsd hd
      obtain ⟨k3, k4⟩ := e4.keepNone k1 k2
      refine turn acc vacc D (I (i + 1)) σ4 S4 Z4 H4 _ g4 k3 k4 (e4.reps s3 (x3.reps sok ra)) hb fun acc' vacc' S5 H5 q5 s5 n5 h5 r5 x5 => ?_
      exact ⟨acc', S5, vacc', h5, r5, n5, s5, x5 S1 H1 ((x1.trans x3).trans e4) hD, q5⟩
    · have hi2 : i = xs.length := by omega
      subst hi2
      obtain ⟨hst, hq⟩ := hend acc S' hI
      refine .inl ⟨(wk S' H' x1 sok hst).2, ?_⟩
      exact p acc S' D vacc H' hq (gd.next (e1.trans x1) sok) (e1.trans x1) hd ra hsd (e1.free hD)
theorem turn_plain {S S' S0 : Sto} {H H' H0 : Hp} (e : Ext S H S' H') {D : Addr} {o : HO} (x : Ext S0 H0 S H) (h : H0 D = none) : Ext S0 H0 S' (upd H' D o) := (x.trans e).out h
theorem turn_elt (acc : List W) (vacc : List V) (D : Addr) (I : List W → Sto → Prop) (σ : Envr) (S : Sto) (Z : L2.St) (H : Hp) (Nx : Hp → Prop) (g : Gd X.K σ S Z H) (hS : S D = none) (hD : H D = some (.lst vacc)) (ra : RepWs X.K H acc vacc)
    (h : me σ S (fun y S5 => acc.length < sizeLine ∧ I (acc ++ [y]) S5) noX)
    (nx : ∀ acc' vacc' S' H', I acc' S' → StOk X.K S' H' → S' D = none → H' D = some (.lst vacc') → RepWs X.K H' acc' vacc' → (∀ S0 H0, Ext S0 H0 S H → H0 D = none → Ext S0 H0 S' H') → Nx H') :
    liftE X.K noW me Z H fun y H4 => ∃ acc, H4 D = some (.lst acc) ∧ acc.length < sizeLine ∧ Nx (upd H4 D (.lst (acc ++ [y]))) := by
  refine ⟨σ, S, _, noX, g, h, fun y S5 v H5 ⟨hl, hI⟩ g5 e5 r5 => ?_, PostX.no⟩
  obtain ⟨k1, k2⟩ := e5.keepNone hS hD
  have ra5 := e5.reps g.st ra
  refine ⟨vacc, k2, by rw [← ra.length]; exact hl, ?_⟩
  have st : Stay X.K H5 (upd H5 D (.lst (vacc ++ [v]))) := Stay.out k2
  exact nx _ _ S5 _ hI (g5.st.out k1 k2) k1 upd_same ((ra5.append (.cons r5 .nil)).mono st) fun S0 H0 x0 h0 => turn_plain e5 x0 h0
theorem own_map (N : List Str) (own : List Nat) : (own.map fun i => (N.getD i "", i)).map (·.2) = own := by
  rw [List.map_map]; exact List.map_id'' (fun _ => rfl) own
structure SndU (X : Cx) (Wx : WX) (e : Expr) (m : Envr → Sto → (List W → Sto → Prop) → XQ → Prop) : Prop where
  t : SndT X Wx e m
  s : isLC e = true → ∀ (i : Nat) (y : Str) (py spos : Pos), X.N[i]? = some y → X.env.scope.names.lookup y = some .local → swapsWith e (some (.Name y py)) spos.line X.env = pure true → PS X (.Assign [.Name y py] e spos) (tAsg (liftT X.K Wx m) (gName i))
theorem SndU.of {e : Expr} {m : Envr → Sto → (List W → Sto → Prop) → XQ → Prop} (h : SndT X Wx e m) (n : isLC e = false) : SndU X Wx e m := ⟨h, fun z => by rw [n] at z; cases z⟩
theorem notSet_of (h : notSet iter = true) : ∀ x, foldedSetIterable iter X.env x = pure x := by
  intro x
  cases iter <;> first | rfl | (simp [notSet] at h)
theorem sndU_comp (hc : X.calm = true) (hN : X.N.Nodup) (hi : PI X tg iter (liftI X.K Wx mi)) (hns : notSet iter = true) (ok : BlkOk X.N X.env.scope scope (own.map fun i => (X.N.getD i "", i))) (hsl : ∀ i ∈ sl, i ∈ own)
    (hg : ∀ (s : Shared) (H : Hp) (C : Addr) (cl : List (Str × Addr)) (fp : List Addr), PG (X.blk s H scope (compEnvC scope cl C X.env) fp) tg (liftG X.K sl mg))
    (he : ∀ (s : Shared) (H : Hp) (C : Addr) (cl : List (Str × Addr)) (fp : List Addr), PE (X.blk s H scope (compEnvC scope cl C X.env) fp) elt (liftE X.K noW me)) :
    SndU X Wx (.ListComp elt [⟨tg, iter, [], 0⟩] scope pos) (mComp mi mg (fun acc I _ σ S => me σ S (fun y S5 => acc.length < sizeLine ∧ I (acc ++ [y]) S5) noX) own) := by
  have key := lift_comp (X := X) (Wx := Wx) (mi := mi) (mg := mg) (sl := sl) (own := own) (wi := liftI X.K Wx mi) (g := liftG X.K sl mg) (tt := tYes) (te := liftE X.K noW me) (mb := fun acc I _ σ S => me σ S (fun y S5 => acc.length < sizeLine ∧ I (acc ++ [y]) S5) noX)
    (fun _ _ _ h => h) (fun _ _ _ _ h => h) hsl (fun acc vacc D I σ S Z H Nx g hS hD ra h nx => iteT (B := Nx H) (turn_elt acc vacc D I σ S Z H Nx g hS hD ra h nx))
  have z := pe_lc (pos := pos) hc hN hi ok hg (fun _ _ _ _ _ => pts_nil) he (notSet_of hns)
  rw [own_map] at z
  refine ⟨⟨pe_weak z key, fun _ => rfl, fun ⟨_, _, _, z⟩ => by cases z⟩, fun _ i y py spos hy hyl hsw => ?_⟩
  have z2 := ps_setLc hc hN hy hyl hsw hi ok hg (fun _ _ _ _ _ => pts_nil) he (notSet_of hns)
  rw [own_map] at z2
  exact ps_weak z2 fun D Z H h => key Z H _ h
theorem sndU_compif (hc : X.calm = true) (hN : X.N.Nodup) (hi : PI X tg iter (liftI X.K Wx mi)) (hns : notSet iter = true) (ok : BlkOk X.N X.env.scope scope (own.map fun i => (X.N.getD i "", i))) (hsl : ∀ i ∈ sl, i ∈ own)
    (hg : ∀ (s : Shared) (H : Hp) (C : Addr) (cl : List (Str × Addr)) (fp : List Addr), PG (X.blk s H scope (compEnvC scope cl C X.env) fp) tg (liftG X.K sl mg))
    (ht : ∀ (s : Shared) (H : Hp) (C : Addr) (cl : List (Str × Addr)) (fp : List Addr), PT (X.blk s H scope (compEnvC scope cl C X.env) fp) t (liftB X.K noW mc))
    (he : ∀ (s : Shared) (H : Hp) (C : Addr) (cl : List (Str × Addr)) (fp : List Addr), PE (X.blk s H scope (compEnvC scope cl C X.env) fp) elt (liftE X.K noW me)) :
    SndU X Wx (.ListComp elt [⟨tg, iter, [t], 0⟩] scope pos) (mComp mi mg (fun acc I J σ S => mc σ S (fun z S5 => asBl z fun b => if b = true then me σ S5 (fun y S6 => acc.length < sizeLine ∧ I (acc ++ [y]) S6) noX else J acc S5) noX) own) := by
  have key := lift_comp (X := X) (Wx := Wx) (mi := mi) (mg := mg) (sl := sl) (own := own) (wi := liftI X.K Wx mi) (g := liftG X.K sl mg) (tt := liftB X.K noW mc) (te := liftE X.K noW me) (mb := fun acc I J σ S => mc σ S (fun z S5 => asBl z fun b => if b = true then me σ S5 (fun y S6 => acc.length < sizeLine ∧ I (acc ++ [y]) S6) noX else J acc S5) noX)
    (fun _ _ _ h => h) (fun _ _ _ _ h => h) hsl (fun acc vacc D I σ S Z H Nx g hS hD ra h nx => ?_)
  · have z := pe_lc (pos := pos) hc hN hi ok hg (fun s H C cl fp => pts_one (ht s H C cl fp)) he (notSet_of hns)
    rw [own_map] at z
    refine ⟨⟨pe_weak z key, fun _ => rfl, fun ⟨_, _, _, z⟩ => by cases z⟩, fun _ i y py spos hy hyl hsw => ?_⟩
    have z2 := ps_setLc hc hN hy hyl hsw hi ok hg (fun s H C cl fp => pts_one (ht s H C cl fp)) he (notSet_of hns)
    rw [own_map] at z2
    exact ps_weak z2 fun D Z H h => key Z H _ h
  · refine ⟨σ, S, _, noX, g, h, fun b S5 H5 hb g5 e5 => ?_, PostX.no⟩
    obtain ⟨k1, k2⟩ := e5.keepNone hS hD
    cases b with
    | true =>
      refine iteT (turn_elt acc vacc D I σ S5 Z H5 Nx g5 k1 k2 (e5.reps g.st ra) (by simpa using hb) fun acc' vacc' S' H' q1 q2 q3 q4 q5 q6 => ?_)
      exact nx acc' vacc' S' H' q1 q2 q3 q4 q5 fun S0 H0 x0 h0 => q6 S0 H0 (x0.trans e5) h0
    | false =>
      refine iteF (nx acc vacc S5 H5 (by simpa using hb) g5.st k1 k2 (e5.reps g.st ra) fun S0 H0 x0 h0 => x0.trans e5)
end
section
variable {X : Cx} {Wx : WX} {σ : Envr} {S : Sto} {Z : L2.St} {H : Hp}
variable {e a b tg iter : Expr} {pos : Pos} {ma mb : MTE} {mt : Envr → Sto → (List W → Sto → Prop) → XQ → Prop} {sl : List Nat}
variable {mi : Envr → Sto → (List W → (Sto → Prop) → Sto → Prop) → XQ → Prop} {mg : W → Envr → Sto → (Envr → Sto → Prop) → XQ → Prop} {ms ms2 : MEnds → Envr → Sto → Prop} {st : Stmt} {rest body orelse : List Stmt}
theorem sw_none (h : isLC e = false) {tgt : Option Expr} {l : Nat} : swapsWith e tgt l X.env = pure false := by
  cases e <;> first | rfl | (simp [isLC] at h)
theorem ps_set_plain {i : Nat} {y : Str} {py : Pos} (hN : X.N.Nodup) (hy : X.N[i]? = some y) (hl : Loc X.env.scope y) (hf : X.fn y = true ∨ X.env.scope.names.lookup y = some .local) (hs : swapsWith e (some (.Name y py)) pos.line X.env = pure false) (h : PE X e (liftE X.K Wx ma)) :
    PS X (.Assign [.Name y py] e pos) (liftS X.K Wx fun D σ S => ma σ S (fun w S1 => D.nx (σ.set i (some w)) S1) (D.ex σ)) := by
  refine ps_weak (ps_set hN hy hl h hs hf) fun D Z H ⟨σ, S, E, g, hm, pnx, prt, pbk, pct, pex⟩ => ?_
  exact ⟨σ, S, _, E.ex σ, g, hm, fun w S1 v H1 q g1 e1 r1 => pnx _ _ _ _ q (g1.set r1 i) e1, fun C S' H' q g' e' => pex _ _ _ _ _ q g' e'⟩
theorem ps_set_lc {i : Nat} {y : Str} {py : Pos} (h : PS X (.Assign [.Name y py] e pos) (tAsg (liftT X.K Wx mt) (gName i))) :
    PS X (.Assign [.Name y py] e pos) (liftS X.K Wx fun D σ S => mt σ S (fun ws S1 => ∀ p, S1 p = none → D.nx (σ.set i (some (.ref p))) (put S1 p (.lst ws))) (D.ex σ)) := by
  refine ps_weak h fun D Z H ⟨σ, S, E, g, hm, pnx, prt, pbk, pct, pex⟩ => ?_
  refine ⟨σ, S, _, E.ex σ, g, hm, fun ws S' q vs H' hq g' e' hl r hS hH => ?_, fun C S' H' q g' e' => pex _ _ _ _ _ q g' e'⟩
  have g2 : Gd X.K σ (put S' q (.lst ws)) Z H' := ⟨g'.len, g'.sl, g'.st.mat ⟨vs, hl, r⟩⟩
  exact pnx _ _ _ _ (hq q hS) (g2.set (.ref q) i) (e'.mat hH)
theorem ps_expL (hn : isLC e = false) (h : PE X e (liftE X.K Wx ma)) : PS X (.Expr e pos) (liftS X.K Wx fun D σ S => ma σ S (fun _ S1 => D.nx σ S1) (D.ex σ)) := by
  refine ps_weak (ps_expr h (sw_none hn)) fun D Z H ⟨σ, S, E, g, hm, pnx, prt, pbk, pct, pex⟩ => ?_
  exact ⟨σ, S, _, E.ex σ, g, hm, fun w S1 v H1 q g1 e1 r1 => pnx _ _ _ _ q g1 e1, fun C S' H' q g' e' => pex _ _ _ _ _ q g' e'⟩
theorem ps_retL (h : PE X e (liftE X.K Wx ma)) : PS X (.Return (some e) pos) (liftS X.K Wx fun D σ S => ma σ S D.rt (D.ex σ)) := by
  refine ps_weak (ps_ret h) fun D Z H ⟨σ, S, E, g, hm, pnx, prt, pbk, pct, pex⟩ => ?_
  exact ⟨σ, S, _, E.ex σ, g, hm, fun w S1 v H1 q g1 e1 r1 => prt _ _ _ _ q g1.st e1 r1, fun C S' H' q g' e' => pex _ _ _ _ _ q g' e'⟩
theorem ps_retNL : PS X (.Return none pos) (liftS X.K Wx fun D _ S => D.rt .non S) := ps_weak ps_retN fun D Z H ⟨σ, S, E, g, hm, pnx, prt, pbk, pct, pex⟩ => prt _ _ _ _ hm g.st .refl .non
theorem ps_pasL : PS X (.Pass pos) (liftS X.K Wx fun D σ S => D.nx σ S) := ps_weak ps_pass fun D Z H ⟨σ, S, E, g, hm, pnx, prt, pbk, pct, pex⟩ => pnx _ _ _ _ hm g .refl
theorem ps_brkL : PS X (.Break pos) (liftS X.K Wx fun D σ S => D.bk σ S) := ps_weak ps_break fun D Z H ⟨σ, S, E, g, hm, pnx, prt, pbk, pct, pex⟩ => pbk _ _ _ _ hm g .refl
theorem ps_cntL : PS X (.Continue pos) (liftS X.K Wx fun D σ S => D.ct σ S) := ps_weak ps_continue fun D Z H ⟨σ, S, E, g, hm, pnx, prt, pbk, pct, pex⟩ => pct _ _ _ _ hm g .refl
theorem pss_nilL : PSs X [] (liftS X.K Wx fun D σ S => D.nx σ S) := pss_weak pss_nil fun D Z H ⟨σ, S, E, g, hm, pnx, prt, pbk, pct, pex⟩ => pnx _ _ _ _ hm g .refl
theorem liftS_next {m : MEnds → Envr → Sto → Prop} {D : Ends} {E E2 : MEnds} {σ2 : Envr} {S2 : Sto} {Z2 : L2.St} {H2 : Hp} {nx bk ct : L2.St → Hp → Prop} {rt : VK}
    (g2 : Gd X.K σ2 S2 Z2 H2) (e : Ext S H S2 H2) (hm : m E2 σ2 S2)
    (pnx : ∀ σ' S' Z' H', E2.nx σ' S' → Gd X.K σ' S' Z' H' → Ext S2 H2 S' H' → nx Z' H')
    (prt : ∀ w S' v H', E2.rt w S' → StOk X.K S' H' → Ext S H S' H' → RepW X.K H' w v → rt v H')
    (pbk : ∀ σ' S' Z' H', E2.bk σ' S' → Gd X.K σ' S' Z' H' → Ext S2 H2 S' H' → bk Z' H')
    (pct : ∀ σ' S' Z' H', E2.ct σ' S' → Gd X.K σ' S' Z' H' → Ext S2 H2 S' H' → ct Z' H')
    (pex : ∀ σ' C S' Z' H', E2.ex σ' C S' → Gd X.K σ' S' Z' H' → Ext S H S' H' → Wx (.ref C) none Z' H') : liftS X.K Wx m { nx := nx, rt := rt, bk := bk, ct := ct } Z2 H2 :=
  ⟨σ2, S2, E2, g2, hm, pnx, fun w S' v H' q s' e' r' => prt w S' v H' q s' (e.trans e') r', pbk, pct, fun σ' C S' Z' H' q g' e' => pex σ' C S' Z' H' q g' (e.trans e')⟩
theorem pss_consL (h1 : PS X st (liftS X.K Wx ms)) (h2 : PSs X rest (liftS X.K Wx ms2)) : PSs X (st :: rest) (liftS X.K Wx fun D σ S => ms { D with nx := ms2 D } σ S) := by
  refine pss_weak (pss_cons h1 h2) fun D Z H ⟨σ, S, E, g, hm, pnx, prt, pbk, pct, pex⟩ => ?_
  refine ⟨σ, S, { E with nx := ms2 E }, g, hm, fun σ2 S2 Z2 H2 q g2 e2 => ?_, prt, pbk, pct, pex⟩
  exact liftS_next (D := D) (E := E) g2 e2 q (fun σ' S' Z' H' q' g' e' => pnx _ _ _ _ q' g' (e2.trans e')) prt (fun σ' S' Z' H' q' g' e' => pbk _ _ _ _ q' g' (e2.trans e')) (fun σ' S' Z' H' q' g' e' => pct _ _ _ _ q' g' (e2.trans e')) pex
theorem ps_iffL {c : Expr} {mc : MTE} (hc : PT X c (liftB X.K Wx mc)) (ha : PSs X body (liftS X.K Wx ms)) (hb : PSs X orelse (liftS X.K Wx ms2)) :
    PS X (.If c body orelse pos) (liftS X.K Wx fun D σ S => mc σ S (fun x S1 => asBl x fun k => if k = true then ms D σ S1 else ms2 D σ S1) (D.ex σ)) := by
  refine ps_weak (ps_if hc ha hb) fun D Z H ⟨σ, S, E, g, hm, pnx, prt, pbk, pct, pex⟩ => ?_
  refine ⟨σ, S, fun k S1 => if k = true then ms E σ S1 else ms2 E σ S1, E.ex σ, g, hm, fun k S1 H1 q g1 e1 => ?_, fun C S' H' q g' e' => pex _ _ _ _ _ q g' e'⟩
  have go : ∀ {m : MEnds → Envr → Sto → Prop}, m E σ S1 → liftS X.K Wx m D Z H1 := fun {m} q => liftS_next (D := D) (E := E) g1 e1 q (fun σ' S' Z' H' q' g' e' => pnx _ _ _ _ q' g' (e1.trans e')) prt (fun σ' S' Z' H' q' g' e' => pbk _ _ _ _ q' g' (e1.trans e')) (fun σ' S' Z' H' q' g' e' => pct _ _ _ _ q' g' (e1.trans e')) pex
  cases k with
  | true => exact iteT (go (by simpa using q))
  | false => exact iteF (go (by simpa using q))
theorem ps_whlL {c : Expr} {mc : MTE} (hp : PassesOwn (model X.prog X.w) X.A X.env X.xe) (hc : PT X c (liftB X.K Wx mc)) (hb : PSs X body (liftS X.K Wx ms)) :
    PS X (.While c body [] pos) (liftS X.K Wx fun D σ S => ∃ I : Nat → Envr → Sto → Prop, (∃ n S2, Sub S2 S ∧ I n σ S2) ∧ ∀ n σ S, I n σ S →
      mc σ S (fun x S1 => asBl x fun k => if k = true then ms { D with nx := fun σ' S' => ∃ m, m < n ∧ I m σ' S', ct := fun σ' S' => ∃ m, m < n ∧ I m σ' S', bk := D.nx } σ S1 else D.nx σ S1) (D.ex σ)) := by
  refine ps_weak (ps_while hp hc hb) fun D Z H ⟨σ, S, E, g, ⟨I, ⟨n, S2, sub, h0⟩, step⟩, pnx, prt, pbk, pct, pex⟩ => ?_
  refine ⟨fun m Z' H' => ∃ σ' S', Gd X.K σ' S' Z' H' ∧ Ext S H S' H' ∧ I m σ' S', ⟨n, σ, S2, ⟨g.len, g.sl, g.st.sub sub⟩, Ext.sub sub, h0⟩, ?_⟩
  rintro m Z1 H1 ⟨σ1, S1, g1, e1, hI⟩
  refine ⟨σ1, S1, fun k S1 => if k = true then ms { E with nx := fun σ' S' => ∃ m', m' < m ∧ I m' σ' S', ct := fun σ' S' => ∃ m', m' < m ∧ I m' σ' S', bk := E.nx } σ1 S1 else E.nx σ1 S1, E.ex σ1, g1, step m σ1 S1 hI, fun k S3 H3 q g3 e3 => ?_, fun C S' H' q g' e' => pex _ _ _ _ _ q g' (e1.trans e')⟩
  cases k with
  | false => exact iteF (pnx _ _ _ _ (by simpa using q) g3 (e1.trans e3))
  | true =>
    refine iteT ⟨fun Z' H' => ∃ m', m' < m ∧ ∃ σ' S', Gd X.K σ' S' Z' H' ∧ Ext S H S' H' ∧ I m' σ' S', fun Z' H' ⟨m', hm, h⟩ => ⟨m', hm, h⟩, ?_⟩
    have e13 := e1.trans e3
    exact liftS_next (D := D) (E := E) (E2 := { E with nx := fun σ' S' => ∃ m', m' < m ∧ I m' σ' S', ct := fun σ' S' => ∃ m', m' < m ∧ I m' σ' S', bk := E.nx }) (nx := fun Z' H' => ∃ m', m' < m ∧ ∃ σ' S', Gd X.K σ' S' Z' H' ∧ Ext S H S' H' ∧ I m' σ' S') (ct := fun Z' H' => ∃ m', m' < m ∧ ∃ σ' S', Gd X.K σ' S' Z' H' ∧ Ext S H S' H' ∧ I m' σ' S') (bk := D.nx) (rt := D.rt) g3 e13 (by simpa using q)
      (fun σ' S' Z' H' ⟨m', hm', q'⟩ g' e' => ⟨m', hm', σ', S', g', e13.trans e', q'⟩) prt (fun σ' S' Z' H' q' g' e' => pnx _ _ _ _ q' g' (e13.trans e')) (fun σ' S' Z' H' ⟨m', hm', q'⟩ g' e' => ⟨m', hm', σ', S', g', e13.trans e', q'⟩) pex
theorem ps_forL (hp : PassesOwn (model X.prog X.w) X.A X.env X.xe) (hc : X.calm = true) (hns : notSet iter = true) (hi : PI X tg iter (liftI X.K Wx mi)) (hg : PG X tg (liftG X.K sl mg)) (hb : PSs X body (liftS X.K Wx ms)) :
    PS X (.For tg iter body [] pos) (liftS X.K Wx fun D σ S => mi σ S (fun xs st S1 => ∃ I : Nat → Envr → Sto → Prop, (∃ S2, Sub S2 S1 ∧ I 0 σ S2) ∧
      (∀ k x σ' S', xs[k]? = some x → I k σ' S' → st S' ∧ mg x σ' S' (fun σ2 S2 => ms { D with nx := I (k + 1), ct := I (k + 1), bk := D.nx } σ2 S2) noX) ∧
      ∀ σ' S', I xs.length σ' S' → st S' ∧ D.nx σ' S') (D.ex σ)) := by
  refine ps_weak (ps_for hp hc hi hg hb (notSet_of hns)) fun D Z H ⟨σ, S, E, g, hm, pnx, prt, pbk, pct, pex⟩ => ?_
  refine ⟨σ, S, _, E.ex σ, g, hm, fun xs st S1 J H1 ⟨I, ⟨S2, sub, h0⟩, hstep, hend⟩ g1 e1 wk => ?_, fun C S' H' q g' e' => pex _ _ _ _ _ q g' e'⟩
  refine ⟨fun i m Z' H' => m = xs.length - i ∧ i ≤ xs.length ∧ ∃ σ' S', Gd X.K σ' S' Z' H' ∧ Ext S1 H1 S' H' ∧ I i σ' S', ⟨xs.length, by simp, Nat.zero_le _, σ, S2, ⟨g1.len, g1.sl, g1.st.sub sub⟩, Ext.sub sub, h0⟩, ?_⟩
  rintro i m Z' H' ⟨rfl, hi', σ', S', g', x1, hI⟩
  by_cases hlt : i < xs.length
  · have hx : xs[i]? = some xs[i] := by simp [hlt]
    obtain ⟨hst, hgt⟩ := hstep i _ σ' S' hx hI
    obtain ⟨hgo, hy⟩ := (wk S' H' x1 g'.st hst).1 i _ hx
    refine .inr ⟨hgo, fun Z'' H'' => ∃ σ'' S'', Gd X.K σ'' S'' Z'' H'' ∧ Ext S1 H1 S'' H'' ∧ I (i + 1) σ'' S'', fun Z'' H'' n => ⟨xs.length - (i + 1), by omega, rfl, hlt, n⟩, fun v H3 hyl => ?_⟩
    obtain ⟨s3, x3, r3⟩ := hy v H3 hyl
    refine ⟨_, σ', S', _, g'.next x3 s3, r3, hgt, fun σ4 S4 Z4 H4 hb g4 e4 _ => ?_⟩
    have e14 := (x1.trans x3).trans e4
    have e04 := e1.trans e14
    exact liftS_next (D := D) (E := E) (nx := fun Z'' H'' => ∃ σ'' S'', Gd X.K σ'' S'' Z'' H'' ∧ Ext S1 H1 S'' H'' ∧ I (i + 1) σ'' S'') (ct := fun Z'' H'' => ∃ σ'' S'', Gd X.K σ'' S'' Z'' H'' ∧ Ext S1 H1 S'' H'' ∧ I (i + 1) σ'' S'') (bk := D.nx) (rt := D.rt) g4 e04 hb
      (fun σ' S' Z' H' q' g' e' => ⟨σ', S', g', e14.trans e', q'⟩) prt (fun σ' S' Z' H' q' g' e' => pnx _ _ _ _ q' g' (e04.trans e')) (fun σ' S' Z' H' q' g' e' => ⟨σ', S', g', e14.trans e', q'⟩) pex
  · have hi2 : i = xs.length := by omega
    subst hi2
    obtain ⟨hst, hq⟩ := hend σ' S' hI
    exact .inl ⟨(wk S' H' x1 g'.st hst).2, pnx _ _ _ _ hq g' (e1.trans x1)⟩
theorem ps_asgL {sl : List Nat} (h1 : notStar tg = true) (hs : swapsWithSole [tg] e pos.line X.env = pure false) (hw : swappedStores [tg] e X.env = pure none) (he : PE X e (liftE X.K Wx ma)) (hg : PG X tg (liftG X.K sl mg)) :
    PS X (.Assign [tg] e pos) (liftS X.K Wx fun D σ S => ma σ S (fun w S1 => mg w σ S1 D.nx noX) (D.ex σ)) := by
  refine ps_weak (ps_asg he hg hs hw (by rw [asg_cons h1]; rfl)) fun D Z H ⟨σ, S, E, g, hm, pnx, prt, pbk, pct, pex⟩ => ?_
  refine ⟨σ, S, _, E.ex σ, g, hm, fun w S1 v H1 q g1 e1 r1 => ?_, fun C S' H' q g' e' => pex _ _ _ _ _ q g' e'⟩
  exact ⟨w, σ, S1, _, g1, r1, q, fun σ' S' Z' H' q' g' e' _ => pnx _ _ _ _ q' g' (e1.trans e')⟩
def iopR : BOp → R2
  | .add => fun x y H Q => rI0 (fun i j => .int (i + j)) x y H Q ∨ (∃ i j, x = .str i ∧ y = .str j ∧ i.length + j.length ≤ sizeLine ∧ Q (.str (i ++ j)) H)
  | _ => rI0 fun i j => .int (i - j)
theorem iopR_ok {op : BOp} {o : Operator} (h : iopB op o = true) : PIp X o (iopR op) := by
  cases op <;> cases o <;> first | exact absurd h (by decide) | skip
  · exact iop_add.or iop_add_str
  · exact iop_sub
theorem ps_augL {i : Nat} {y : Str} {py : Pos} {op : BOp} {o : Operator} (hop : iopB op o = true) (hN : X.N.Nodup) (hy : X.N[i]? = some y) (hl : Loc X.env.scope y) (hf : X.fn y = true ∨ X.env.scope.names.lookup y = some .local) (h : PE X e (liftE X.K Wx ma)) :
    PS X (.AugAssign (.Name y py) o e pos) (liftS X.K Wx fun D σ S => match getv σ i with
    | some x => ma σ S (fun y S1 => augW op x y fun z => D.nx (σ.set i (some z)) S1) (D.ex σ)
    | none => False) := by
  refine ps_weak (ps_aug hN hy hl h (iopR_ok hop) hf) fun D Z H ⟨σ, S, E, g, hm, pnx, prt, pbk, pct, pex⟩ => ?_
  dsimp only at hm
  split at hm
  · rename_i x ex
    have ex' : σ[i]? = some (some x) := by
      unfold getv at ex
      split at ex
      · cases ex; assumption
      · cases ex
    obtain ⟨v, hv, rv⟩ := g.sl i x ex'
    refine ⟨v, hv, σ, S, _, E.ex σ, g, hm, fun w S1 u H1 q g1 e1 r1 => ?_, fun C S' H' q g' e' => pex _ _ _ _ _ q g' e'⟩
    have rv1 := e1.rep g.st rv
    cases op <;> first | exact q.elim | skip
    · cases x <;> cases w <;> first | exact q.elim | skip
      · cases rv1; cases r1
        exact .inl ⟨_, _, rfl, rfl, pnx _ _ _ _ q (g1.set (.int _) i) e1⟩
      · cases rv1; cases r1
        exact .inr ⟨_, _, rfl, rfl, q.1, pnx _ _ _ _ q.2 (g1.set (.str _) i) e1⟩
    · cases x <;> cases w <;> first | exact q.elim | skip
      cases rv1; cases r1
      exact ⟨_, _, rfl, rfl, pnx _ _ _ _ q (g1.set (.int _) i) e1⟩
  · exact hm.elim
end
section
variable {P : Program} {w : World} {A : Around} {E : Value → Shared → Prop} {s : Shared}
abbrev noSet (w : World) : Obj := { cls := .type "set", dict := none, data := .set #[] 0 (.fresh 0 0 (!w.params.followText "set-order")) }
abbrev withSet (w : World) (h : Heap) : Heap := h.push (noSet w)
theorem wS_get {h : Heap} : (withSet w h).get? h.objs.size = some (noSet w) := Heap.get?_push_size _ rfl
theorem wS_size {h : Heap} : (withSet w h).objs.size = h.objs.size + 1 := Heap.size_push ..
set_option maxHeartbeats 8000000 in
theorem set_ofL {l : Addr} {xs : Array Value} (ns : List Int) {Q : Value → Shared → Prop} (cl : A.handled = none) (hl : s.heap.IsList l xs) (hx : IntsAre xs.toList ns) (few : ns.length + 1 < scanBound)
    (h : ∀ (h' : Heap) (tk c : Nat), SetR w h' s.heap.objs.size (fun j => decide (j ∈ ns)) c → c ≤ ns.length → (∀ b o, s.heap.get? b = some o → h'.get? b = some o) → Q (.ref s.heap.objs.size) { s with heap := h', toks := tk }) :
    wpAny (model P w) A (call (.type "set") [.ref l]) Q E s := by
  have size : xs.size = ns.length := by have q := IntsAre.length hx; rwa [Array.length_toList] at q
  obtain ⟨mr, mt, made0⟩ := F.called_set.mro
  obtain made1 := F.called_set.made; obtain made2 := F.called_set.sub
  refine wpAny_call (codeAny_of_tree ?top)
  show wpAny _ _ (callAny (.type "set") _) _ _ _; refine wpAny_pure ⟨Code.quiet_builtin _ (by decide +kernel), codeAny_builtin F.entry_type_call ?run⟩
  rw [Around.under_plain (weight_type_call_type "set" [.ref l] []) rfl]; obtain made3 := F.called_set.notType
  obtain made4 := F.called_set.canCreate; obtain made5 := F.typeCall_set_1 (.ref l)
  repeat (any_goals (first | assumption | wp_step))
  refine codeAny_mono (code_set_led1 (.ref l) (E := E) (Q₁ := fun v t => v = .ref s.heap.objs.size ∧ t = { s with heap := withSet w s.heap }) ⟨rfl, rfl⟩) fun r t hr => ?_
  match r, hr with
  | .error e, hr => exact hr
  | .ok (.ret v), ⟨e1, e2⟩ =>
    subst e1 e2
    have ty : Shared.TypeIs { s with heap := withSet w s.heap } (.ref s.heap.objs.size) "set" := ⟨_, wS_get, rfl⟩
    obtain made6 := F.called_set.init.lookup; obtain made7 := F.called_set.init.bind (.ref s.heap.objs.size)
    repeat (any_goals (first | assumption | wp_step))
    refine codeAny_mono (codeAny_call_builtin (R := wants (fun v t => v = .none ∧ ∃ h' tk c, t = { s with heap := h', toks := tk } ∧ SetR w h' s.heap.objs.size (fun j => decide (j ∈ ns)) c ∧ c ≤ ns.length ∧
      (∀ b o, s.heap.get? b = some o → h'.get? b = some o)) E) F.called_set.init.plain F.entry_set_init (check_set_init_1 ty ?body)) fun r2 t2 hr2 => ?after
    case body =>
      obtain ⟨⟨oc, od, dt, os⟩, ho, hc, n, hd⟩ := hl
      simp only at hc hd; subst hc hd
      have ho2 : (withSet w s.heap).get? l = some { cls := .type "list", dict := od, data := .seq xs n, slots := os } := Heap.get?_push_of_some _ ho
      have hl2 : (withSet w s.heap).IsList l xs := ⟨_, ho2, rfl, n, rfl⟩
      obtain made8 := F.sub_list_set; obtain made9 := F.sub_list_frozenset
      have made10 : (Value.type "list" == Value.type "dict") = false := by decide
      unfold Builtin.«set.__init__» noKeywords Builtin.Frozenset.updateFrom; generalize it : pyIter = PI
      wp_walk
      subst it; refine wpAny_pyIter_list hl2 (wpAny_bind (wpAny_runValue ?_))
      have low : l < s.heap.objs.size := Heap.lt_size ho
      have calm : A.in1.in1.in1.handled = none := by simp [cl]
      have off : l ≠ (withSet w s.heap).objs.size := wS_size (w := w) ▸ Nat.ne_of_lt (Nat.lt_succ_of_lt low)
      have off2 : s.heap.objs.size ∉ [(withSet w s.heap).objs.size, l] := by
        rw [wS_size, List.mem_cons, List.mem_singleton]; exact fun z => z.elim (Nat.ne_of_lt (Nat.lt_succ_self _)) (Nat.ne_of_gt low)
      have vals : ∀ (i : Nat) (v : Value), xs[i]? = some v → ∃ k t, ns[i]? = some k ∧ v = .int k t := fun i v hv => by
        have hi : i < ns.length := size ▸ (Array.getElem?_eq_some_iff.mp hv).1
        obtain ⟨t, e⟩ := PyProof.Rows.IntsAre.int_at hx i v (by rw [Array.getElem?_toList]; exact hv)
        exact ⟨ns[i], t, List.getElem?_eq_getElem hi, by rw [e, List.getD_eq_getElem?_getD, List.getElem?_eq_getElem hi]; rfl⟩
      refine set_update_ints ((Walks.list calm _ l off xs).toS) s.heap.objs.size off2 ns size few vals (xs.size - 0) 0 _ (by omega) (Nat.zero_le _) ⟨⟨_, Heap.get?_push_size _ rfl, rfl, rfl⟩, hl2.push _⟩ ⟨0, Nat.le_refl 0, setR_new_at (Heap.get?_push_of_some _ wS_get)⟩ fun t c mv hc hS => ?_
      obtain ⟨th, tg, td, tt, tos⟩ := t
      obtain rfl : tg = s.gens := mv.gens
      obtain rfl : td = s.drawn := mv.drawn
      obtain rfl : tos = s.os := mv.os
      show wpAny _ _ _ _ _ _; refine wpAny_pure ?_
      show wpAny _ _ (ret Value.none) _ _ _; refine wpAny_pure ⟨rfl, th, tt, c, rfl, hS, size ▸ hc, fun b o e => ?_⟩
      have hb : b < s.heap.objs.size := Heap.lt_size e
      refine mv.heap b o ?_ (Heap.get?_push_of_some _ (Heap.get?_push_of_some _ e))
      have z : (withSet w s.heap).objs.size = s.heap.objs.size + 1 := wS_size
      rw [List.mem_cons, List.mem_singleton, z]; exact fun y => y.elim (Nat.ne_of_lt hb) (Nat.ne_of_lt (Nat.lt_succ_of_lt hb))
    case after =>
      match r2, hr2 with
      | .error e, hr2 => exact hr2
      | .ok (.ret v), ⟨e1, h', tk, c, e2, hS, hc, hk⟩ =>
        subst e1 e2
        repeat (any_goals (first | assumption | wp_step))
        exact h _ _ _ hS hc hk
theorem sorted_ofSet {a : Addr} {M : Int → Bool} {n : Nat} {Q : Value → Shared → Prop} (R : SetR w s.heap a M n) (cl : A.handled = none)
    (h : ∀ t p (out : List Value) (c : Nat) (ns : List Int), (∀ b o, s.heap.get? b = some o → t.heap.get? b = some o) → t.gens = s.gens → t.os = s.os → s.heap.objs.size ≤ p →
      t.heap.get? p = some (seqObj "list" out.toArray c) → IntsAre out ns → ns.Pairwise (· < ·) → (∀ k, k ∈ ns ↔ M k = true) → ns.length = n → Q (.ref p) t) : wpAny (model P w) A (call (.builtin "sorted") [.ref a]) Q E s := by
  obtain ⟨o, es, ep, t, ho, hex, hd, good, nd, mem, few, fits, hn, ris, led⟩ := R
  refine Calls.call_function_entry kind_sorted plain_sorted entry_sorted (args_sorted1 _) ?go; unfold Builtin.«sorted»
  refine wpAny_bind (m := checkCount "sorted" 1 1 _) (wpAny_pure (wpAny_bind (collect_set (A := A.in1) cl ⟨o, ho, hex.1, hd⟩ fits few ris led fun t1 vs k1 z1 g1 o1 pm => ?_)))
  have len : vs.length = n := by rw [pm.length_eq, List.length_map, Array.length_toList, hn]
  have le : vs.length ≤ sizeLine := by rw [len, ← hn, sizeLine_eq]; unfold scanBound at few; omega
  have hI : IntsAre vs (vs.map SrtO.iv) := SrtO.ints_iv fun v hv => by
    obtain ⟨e, he, q⟩ := List.mem_map.mp (pm.mem_iff.mp hv)
    obtain ⟨k, tk, h1, _⟩ := good e he
    exact ⟨k, tk, q ▸ h1⟩
  have keys : (vs.map SrtO.iv).Perm (es.toList.map keyOf) := by
    have q := pm.map SrtO.iv; rw [List.map_map] at q
    have e : es.toList.map (SrtO.iv ∘ fun x => x.2) = es.toList.map keyOf := List.map_congr_left fun x _ => rfl
    rwa [← e]
  refine wpAny_bind (wpAny_newList ?_ le)
  have at1 : (t1.heap.push (seqObj "list" vs.toArray 0)).get? t1.heap.objs.size = some (seqObj "list" vs.toArray 0) := Heap.get?_push_size _ rfl
  refine wpAny_bind (wpAny_holding (wpAny_call_entry slot_list_sort ⟨_, at1, rfl⟩ entry_list_sort (SrtO.list_sort_ord SrtO.swo_int at1 le (fun h2 => SrtO.ints_sortable hI h2) fun out a1 a2 => ⟨_, rfl, ?_⟩) (args_list_sort _)))
  obtain ⟨b1, b2, b3⟩ := SrtO.ints_out hI a1 a2
  obtain ⟨c, hc⟩ := sortedHeap_at (vs := vs) (out := out.toArray) at1
  have pn : (out.map SrtO.iv).Perm (es.toList.map keyOf) := b2.trans keys
  refine wpAny_pure ⟨_, rfl, h _ t1.heap.objs.size out c _ (fun b u e => ?_) g1 o1 z1 hc b1 (lt_of_le_nodup _ b3 (pn.nodup_iff.mpr nd)) (fun k => by rw [pn.mem_iff, ← mem k]) (by rw [pn.length_eq, List.length_map, Array.length_toList, hn])⟩
  have lt1 := Heap.lt_size (k1 b u e)
  show (sortedHeap (t1.heap.push (seqObj "list" vs.toArray 0)) t1.heap.objs.size vs out.toArray).get? b = some u
  rw [sortedHeap_old (Nat.ne_of_lt lt1) (by rw [size_push']; exact Nat.lt_succ_of_lt lt1)]; exact Heap.get?_push_of_some _ (k1 b u e)
end
section
variable {X : Cx}
def rSetL (K : PySem.W.Frag) (w : World) : List V → Hp → VK → Prop := fun vs H Q => ∃ (a : Addr) (ns : List Int), vs = [V.ref a] ∧ SqL K H a (ns.map V.int) ∧ ns.length ≤ 4000 ∧
  ∀ (p : Addr) (c : Nat), H p = none → Q (.ref p) (upd H p (SetO w p (fun j => decide (j ∈ ns)) c))
theorem cr_setL (cl : X.calm = true) : CallR X (.type "set") (rSetL X.K X.w) := by
  intro pins s σ H vs us Q I r h
  obtain ⟨a, ns, rfl, hs, few, q⟩ := h
  obtain ⟨its, rv, hl, hz⟩ := I.list hs
  rw [Vals.ref1 r]
  have bound : ns.length + 1 < scanBound := by unfold scanBound; omega
  refine set_ofL ns (I.ok.hd cl) hl.isList rv.ints bound fun h' tk c hS _ hk => ?_
  exact ⟨.ref _, _, I.laid (t' := tk) hk (Nat.le_refl _) (setO_new hS), rfl, q _ c (I.hok.fresh (Nat.le_refl _))⟩
def rSortS (w : World) : List V → Hp → VK → Prop := fun vs H Q => ∃ (a : Addr) (M : Int → Bool) (n : Nat), vs = [V.ref a] ∧ H a = some (SetO w a M n) ∧
  ∀ (ns : List Int) (p : Addr), ns.Pairwise (· < ·) → (∀ k : Int, k ∈ ns ↔ M k = true) → H p = none → Q (.ref p) (upd H p (.lst (ns.map V.int)))
theorem cr_sortS (cl : X.calm = true) : CallR X (.builtin "sorted") (rSortS X.w) := by
  intro pins s σ H vs us Q I r h
  obtain ⟨a, M, n, rfl, ha, q⟩ := h
  have R := setO_get I ha
  have few : n < scanBound := by obtain ⟨o, es, ep, t, _, _, _, _, _, _, f, _, e, _⟩ := R; omega
  rw [Vals.ref1 r]
  refine sorted_ofSet R (I.ok.hd cl) fun t p out c ns k g o hp hg hi hs hm hl => ?_
  have len : (ns.map V.int).length ≤ sizeLine := by rw [List.length_map, hl, sizeLine_eq]; unfold scanBound at few; omega
  have hn := I.hok.fresh hp
  have e : t = { s with heap := t.heap, gens := t.gens, drawn := t.drawn, toks := t.toks } := by cases t; cases s; cases o; rfl
  have new : ObjOk X.prog X.w (upd H p (.lst (ns.map V.int))) t.heap p (.lst (ns.map V.int)) := ⟨len, out, c, vals_of_ints hi, hg⟩
  rw [e]
  exact ⟨.ref p, upd H p (.lst (ns.map V.int)), I.call (ch := []) (Un.laid k hp hn) (I.hok.laid k hp new) (by rw [g]; exact I.bare) (fun _ z => nomatch z), rfl, q ns p hs hm hn⟩
def PairV (K : PySem.W.Frag) (H : Hp) (x : V) (p : Int × Int) : Prop := ∃ t, x = V.ref t ∧ SqT K H t [.int p.1, .int p.2]
def rSortW (K : PySem.W.Frag) : List V → Hp → VK → Prop := fun vs H Q => ∃ (a : Addr) (xs : List V), vs = [V.ref a] ∧ SqL K H a xs ∧ (∀ x ∈ xs, ∃ p, PairV K H x p) ∧
  ∀ (ys : List V) (k : V → Int × Int) (p : Addr), (∀ x ∈ xs, PairV K H x (k x)) → (∀ x q, PairV K H x q → x ∈ xs → q = k x) → ys.Perm xs → (ys.map k).Pairwise (fun p q => p.1 < q.1 ∨ p.1 = q.1 ∧ p.2 ≤ q.2) → H p = none → Q (.ref p) (upd H p (.lst ys))
open Classical in
theorem cr_sortW : CallR X (.builtin "sorted") (rSortW X.K) := by
  intro pins s σ H vs us Q I r h
  obtain ⟨a, xs, rfl, hs, hx, q⟩ := h
  obtain ⟨its, rv, hl, hz⟩ := I.list hs
  rw [Vals.ref1 r]
  let k : V → Int × Int := fun x => if h : ∃ p, PairV X.K H x p then h.choose else (0, 0)
  have hk : ∀ x ∈ xs, PairV X.K H x (k x) := fun x hm => by
    show PairV X.K H x (if h : ∃ p, PairV X.K H x p then h.choose else (0, 0))
    rw [dif_pos (hx x hm)]; exact (hx x hm).choose_spec
  obtain ⟨e1, e2⟩ := refs_back rv fun x m => let ⟨_, t, e, _⟩ := hx x m; ⟨t, e⟩
  have mem : ∀ t : Addr, Value.ref t ∈ its → V.ref t ∈ xs := fun t ht => by rw [e1]; exact List.mem_map.mpr ⟨_, ht, rfl⟩
  refine SrtO.sorted_pairsO (k := fun u => k (backV u)) hl.isList (by rw [← rv.length]; exact hz) (fun v hv => ?_) fun h' d out h1 h2 kp hd hn => ?_
  · obtain ⟨t, rfl⟩ := e2 v hv
    obtain ⟨t', e, ht⟩ := hk _ (mem t hv)
    cases e
    obtain ⟨its2, r2, ⟨o, ho, hc, n, hd⟩, _⟩ := I.tuple ht
    obtain ⟨u1, u2, rfl, ⟨t1, rfl⟩, ⟨t2, rfl⟩⟩ := vals2 r2
    exact ⟨t, o, t1, t2, n, rfl, ho, hc, hd⟩
  · have h3 : ∀ u ∈ out, ∃ a, u = Value.ref a := fun u hu => e2 u (h2.perm.mem_iff.mp hu)
    obtain ⟨n, hn⟩ := hn
    have pm : (out.map backV).Perm xs := by rw [e1]; exact h2.perm.map backV
    refine ⟨.ref d, upd H d (.lst (out.map backV)), I.laid (t' := s.toks) kp hd ⟨by rw [pm.length_eq]; exact hz, out, n, vals_back h3, hn⟩, rfl, q _ k d hk (fun x p hp hm => ?_) pm ?_ (I.hok.fresh hd)⟩
    · obtain ⟨t, rfl, h4⟩ := hp
      obtain ⟨t', e, h5⟩ := hk _ hm
      cases e
      have e := I.tuple_inj h4 h5
      injection e with e3 e4; injection e3 with e3; injection e4 with e4 _; injection e4 with e4
      exact Prod.ext e3 e4
    · rw [List.map_map]
      refine List.pairwise_map.mpr (h1.imp fun {x y} h => ?_)
      have h6 := SrtO.lexB_no.mp h
      show (k (backV x)).1 < (k (backV y)).1 ∨ (k (backV x)).1 = (k (backV y)).1 ∧ (k (backV x)).2 ≤ (k (backV y)).2
      omega
end
section
variable {K : PySem.W.Frag} {H H' : Hp} {S : Sto}
theorem RepF.look {f : Str} : ∀ {fs : List (Str × W)} {vs : List (Str × V)}, RepF K H fs vs → (∀ w, fs.lookup f = some w → ∃ v, vs.lookup f = some v ∧ RepW K H w v) ∧ (fs.lookup f = none → vs.lookup f = none)
  | [], [], _ => ⟨fun w e => (by cases e), fun _ => rfl⟩
  | (g, w1) :: r, (g2, v1) :: t, ⟨e, rv, rt⟩ => by
    have e' : g = g2 := e
    subst e'
    have ih := RepF.look (f := f) rt
    rw [List.lookup_cons, List.lookup_cons]
    cases f == g with
    | true => exact ⟨fun w e => by cases e; exact ⟨v1, rfl, rv⟩, fun e => by cases e⟩
    | false => exact ih
  | [], _ :: _, h => h.elim
  | _ :: _, [], h => h.elim
theorem RepF.putF {f : Str} {w : W} {v : V} (rw' : RepW K H w v) : ∀ {fs : List (Str × W)} {vs : List (Str × V)}, RepF K H fs vs → RepF K H (putFW f w fs) (L2.putF f v vs)
  | [], [], _ => ⟨rfl, rw', trivial⟩
  | (g, w1) :: r, (g2, v1) :: t, ⟨e, rv, rt⟩ => by
    have e' : g = g2 := e
    subst e'
    unfold putFW L2.putF
    by_cases h : g = f
    · rw [if_pos h, if_pos h]; exact ⟨rfl, rw', rt⟩
    · rw [if_neg h, if_neg h]; exact ⟨rfl, rv, RepF.putF rw' rt⟩
  | [], _ :: _, h => h.elim
  | _ :: _, [], h => h.elim
end
section
variable {X : Cx} {Wx : WX} {σ : Envr} {S : Sto} {Z : L2.St} {H : Hp}
variable {a b c r0 : Expr} {pos ap : Pos} {ma mb mc : MTE} {es : List Expr} {mes : Envr → Sto → (List W → Sto → Prop) → XQ → Prop}
theorem snd_fld {C : Addr} {f : Str} (hb0 : baseOk a = true) (hc : Cls X.K C) (hn : NoAttr X.K C f) (ha : PE X a (liftE X.K Wx ma)) : Snd X Wx (.Attribute a f pos) (fun σ S Q E => ma σ S (fun x S1 => fldW x C f S1 fun w => Q w S1) E) := by
  refine Snd.plain (pe_weak (pe_fld ha (base_ok hb0)) fun Z H QV ⟨σ, S, Q, E, g, h, p, px⟩ => ?_) (fun _ => rfl) (fun ⟨_, _, _, z⟩ => by cases z)
  refine ⟨σ, S, _, E, g, h, fun x S1 v H1 h1 g1 e1 r1 => ?_, px⟩
  cases x <;> first | exact h1.elim | skip
  rename_i ad
  cases r1
  unfold fldW at h1
  dsimp only at h1
  split at h1
  · rename_i D fs e
    obtain ⟨rfl, h1⟩ := h1
    obtain ⟨dx, vs, hv, rf⟩ := g1.st _ _ e
    split at h1
    · rename_i w ew
      obtain ⟨v, ev, rv⟩ := rf.look.1 w ew
      exact ⟨ad, D, dx, vs, v, rfl, hv, hc, hn, ev, p _ _ _ _ h1 g1 e1 rv⟩
    · exact h1.elim
  · exact h1.elim
theorem StOk.setIns {p dx C : Addr} {fs fs0 : List (Str × W)} {vs : List (Str × V)} {K : PySem.W.Frag} (g : StOk K S H) (h : S p = some (.ins C fs0)) (r : RepF K H fs vs) : StOk K (put S p (.ins C fs)) (upd H p (.ins C dx vs)) := by
  have x : Ext S H (put S p (.ins C fs)) (upd H p (.ins C dx vs)) := Ext.write (by rw [h]; exact fun z => by cases z) (g.nfI h)
  exact g.put_at x (fun a v h e => by rw [upd_ne h]; exact e) ⟨dx, vs, upd_same, r.mono (x.stay g)⟩
theorem ps_sflL {C : Addr} {f : Str} {p2 : Pos} (hc : Cls X.K C) (hn : NoAttr X.K C f) (ho : PE X a (liftE X.K Wx ma)) (hv : PE X b (liftE X.K Wx mb)) :
    PS X (.Assign [.Attribute a f p2] b pos) (liftS X.K Wx fun D σ S => mb σ S (fun y S1 => ma σ S1 (fun x S2 => setF x C f y S2 (D.nx σ)) (D.ex σ)) (D.ex σ)) := by
  refine ps_weak (ps_fld ho hv (by cases b <;> rfl)) fun D Z H ⟨σ, S, E, g, h, k1, k2, k3, k4, k5⟩ => ?_
  refine ⟨σ, S, _, _, g, h, fun y S1 v1 H1 h1 g1 e1 r1 => ?_, fun C S' H' q g' e' => k5 _ _ _ _ _ q g' e'⟩
  refine ⟨σ, S1, _, _, g1, h1, fun x S2 v2 H2 h2 g2 e2 r2 => ?_, fun C S' H' q g' e' => k5 _ _ _ _ _ q g' (e1.trans e')⟩
  cases x <;> first | exact h2.elim | skip
  rename_i ad
  cases r2
  unfold setF at h2
  dsimp only at h2
  split at h2
  · rename_i D fs e
    obtain ⟨rfl, hl, h2⟩ := h2
    obtain ⟨dx, vs, hv', rf⟩ := g2.st _ _ e
    have ry := e2.rep g1.st r1
    have x : Ext S2 H2 (put S2 ad (.ins D (putFW f y fs))) (upd H2 ad (.ins D dx (L2.putF f v1 vs))) := Ext.write (by rw [e]; exact fun z => by cases z) (g2.st.nfI e)
    refine ⟨ad, D, dx, vs, rfl, hv', hc, hn, by rw [← rf.length]; exact hl, ?_⟩
    exact k1 _ _ _ _ h2 (g2.next x (g2.st.setIns e (rf.putF ry))) ((e1.trans e2).trans x)
  · exact h2.elim
def tMethS (C : Addr) (m : Str) (sp : Sp) (E : L2.St → XK) (ta : TE) (t : TA) : TE := fun σ H Q => ta σ H fun x H1 => ∃ a dx fs, x = .ref a ∧ H1 a = some (.ins C dx fs) ∧ fs.lookup m = none ∧ t σ H1 fun vs H2 => sp (x :: vs) H2 Q (E σ)
section
variable {CX : CXT} {k : Nat} {f C : Addr} {fd : FuncData} {ps : List Str} {sp : Sp} {E : L2.St → XK} {x m : Str} {p : Pos} {e : Expr} {ta : TE} {t : TA}
theorem few_ok {args : List Expr} (hs : noStars args = true) (hl : args.length < 30) : methodCallForm (args.length + ([] : List Keyword).length) (backTo pos (starEach args X.env)) (backToKw pos (keywordEach [] X.env)) = true := by
  unfold methodCallForm
  have e1 : (backTo pos (starEach args X.env)).all (fun x => !x.1) = true := by
    rw [List.all_eq_true]
    intro y hy
    have h := star_any (X := X) hs
    rw [← backTo_any (pos := pos)] at h
    have := List.any_eq_false.mp h y hy
    simpa using this
  have e2 : (backToKw pos (keywordEach [] X.env)).all (fun x => x.1.isSome) = true := rfl
  rw [e1, e2]
  simp only [Bool.true_and, decide_eq_true_eq]
  show args.length + 0 + _ < 30
  have e3 : (backToKw pos (keywordEach [] X.env)).isEmpty = true := rfl
  rw [e3, if_pos rfl]
  omega
theorem eval_meth {o : Expr} {m : Str} {apos pos : Pos} {args : List Expr} (hb0 : baseOk o = true) (hs : noStars args = true) (hl : args.length < 30) (hline : (apos.endLine == pos.line) = true) : ∃ pl : Sem Bool, eval (.Call (.Attribute o m apos) args [] pos) X.env = (do
      let ov ← eval o X.env
      standAt apos.atName
      let (g, first) ← holding [ov] (getMethod ov m pl)
      callWith pos g first (backTo pos (starEach args X.env)) (backToKw pos (keywordEach [] X.env))) := by
  refine ⟨(do return (← importBound o X.env).getD true), ?_⟩
  show (do
    let ov ← attributeBase o m X.env (eval o X.env)
    standAt apos.atName
    methodCall o m apos pos X.env ov (args.length + ([] : List Keyword).length) (backTo pos (starEach args X.env)) (backToKw pos (keywordEach [] X.env))) = _
  rw [base_ok hb0]
  unfold methodCall
  rw [few_ok hs hl]
  unfold calleeOf methodCallPos
  rw [hline]
  rfl
theorem pe_methS {o : Expr} (hb0 : baseOk o = true) (he : PE X o ta) (c : Cls X.K C) (hm : Meth X.K C m f) (F : FnOk X.prog X.w X.K X.mg X.base CX k f fd ps sp) (hr : Room k X.A) (hb : Binds X.K fd ps []) (hx : ∀ σ, PassesAt CX X σ (E σ)) (hs : noStars (e :: es) = true) (hl : (e :: es).length < 30) (hline : (ap.endLine == pos.line) = true) (ha : PA X (e :: es) t) :
    PE X (.Call (.Attribute o m ap) (e :: es) [] pos) (tMethS C m sp E ta t) := by
  have hs' := hs
  simp only [noStars, List.all_cons, Bool.and_eq_true] at hs'
  obtain ⟨pl, ht⟩ := eval_meth (X := X) (m := m) (apos := ap) (pos := pos) (args := e :: es) hb0 hs hl hline
  refine ⟨fun pins s σ H Q I h => ?_⟩
  refine PySem.W.methodCall_KW (pl := pl) (thn (he.run pins s σ H _ I h) fun u s1 ⟨x, H1, I1, rx, a, dx, fs, ex, ea, l, q⟩ => ?_) ht
  subst ex
  cases (show u = Value.ref a from rx)
  refine getmeth_ok I1 ea c hm l ?_
  refine PySem.W.callWith_K (first := [.ref a]) (h₀ := X.base) I.ok.mod.kin hm.kp (thn (ha.run pos pins s1 σ H1 _ I1 q) fun us s2 ⟨vs, H2, I2, rr, q2⟩ => ⟨I2.kIn, ?_⟩) (star_cons hs'.1) (by rw [backTo_any]; exact star_any hs'.2)
  exact run_fnS (us := .ref a :: us) (vs := .ref a :: vs) F hr hb (hx σ) I2 (.cons rfl rr) q2
theorem pe_methS0 {o : Expr} (hb0 : baseOk o = true) (he : PE X o ta) (c : Cls X.K C) (hm : Meth X.K C m f) (F : FnOk X.prog X.w X.K X.mg X.base CX k f fd ps sp) (hr : Room k X.A) (hb : Binds X.K fd ps []) (hx : ∀ σ, PassesAt CX X σ (E σ)) (hline : (ap.endLine == pos.line) = true) :
    PE X (.Call (.Attribute o m ap) [] [] pos) (tMethS C m sp E ta tNil) := by
  obtain ⟨pl, ht⟩ := eval_meth (X := X) (m := m) (apos := ap) (pos := pos) (args := []) hb0 rfl (by decide) hline
  refine ⟨fun pins s σ H Q I h => ?_⟩
  refine PySem.W.methodCall_KW (pl := pl) (thn (he.run pins s σ H _ I h) fun u s1 ⟨x, H1, I1, rx, a, dx, fs, ex, ea, l, q⟩ => ?_) ht
  subst ex
  cases (show u = Value.ref a from rx)
  refine getmeth_ok I1 ea c hm l ?_
  exact PySem.W.callWith_K0 (first := [.ref a]) I1.kIn hm.kp (run_fnS (us := [.ref a]) (vs := [.ref a]) F hr hb (hx σ) I1 (.cons rfl .nil) q)
def tMakeS (C : Addr) (sp : Sp) (E : L2.St → XK) (t : TA) : TE := fun σ H Q => t σ H fun vs H1 => ∀ y dy, H1 y = none → H1 dy = none → dy ≠ y → sp (.ref y :: vs) (upd (upd H1 dy (.own y)) y (.ins C dy [])) (fun v H2 => v = .non ∧ Q (.ref y) H2) (E σ)
theorem run_makeS {pins : List (Addr × Obj)} {σ : L2.St} {H : Hp} {s : Shared} {Q : VK} {us : List Value} {vs : List V} (M : Mk X.K C f) (F : FnOk X.prog X.w X.K X.mg X.base CX k f fd ps sp) (hr : Room (k + 1) X.A) (hb : Binds X.K fd ps []) (hx : PassesAt CX X σ (E σ)) (I : Inv X pins σ H s) (rv : Vals vs us)
    (h : ∀ y dy, H y = none → H dy = none → dy ≠ y → sp (.ref y :: vs) (upd (upd H dy (.own y)) y (.ins C dy [])) (fun v H2 => v = .non ∧ Q (.ref y) H2) (E σ)) : wpAny (model X.prog X.w) X.A (call (.ref C) us) (EP X pins σ Q) X.xe s := by
  have z := h (s.heap.objs.size + 1) s.heap.objs.size (I.hok.fresh (Nat.le_succ _)) (I.hok.fresh (Nat.le_refl _)) (Nat.ne_of_lt (Nat.lt_succ_self _))
  have J := Inv.made (C := C) I
  have rv2 : Vals (V.ref (s.heap.objs.size + 1) :: vs) (Value.ref (s.heap.objs.size + 1) :: us) := .cons rfl rv
  have ln : (Value.ref (s.heap.objs.size + 1) :: us).length = ps.length := by rw [← rv2.length]; exact F.len _ _ _ _ z
  have bd := hb _ (Value.ref (s.heap.objs.size + 1) :: us) J.kIn (by rw [List.append_nil]; exact ln)
  rw [List.append_nil] at bd
  refine wpAny_call (make_map (f := f) I.kIn M.makes M.init (beq_iff_eq.mp M.fn) (codeAny_mono (F.run _ X.stack _ _ ⟨Value.ref (s.heap.objs.size + 1) :: us, []⟩ (Value.ref (s.heap.objs.size + 1) :: us) _ _ (E σ) (hr.make C us []) (J.env0.make C us []) bd rv2 z) fun r s' w => ?_))
  match r, w with
  | .error e, w => exact hx pins _ _ e s' J w
  | .ok (.ret u), w =>
    obtain ⟨v, H', J2, rw', ev, q⟩ := J.after w
    subst ev
    exact ⟨rw', ⟨V.ref (s.heap.objs.size + 1), H', J2, rfl, q⟩⟩
  | .ok .next, w => exact False.elim w
  | .ok .brk, w => exact False.elim w
  | .ok .cont, w => exact False.elim w
theorem pe_makeS (M : Mk X.K C f) (F : FnOk X.prog X.w X.K X.mg X.base CX k f fd ps sp) (hr : Room (k + 1) X.A) (hg : Gl X x) (hm : X.mg x = some (.ref C)) (hb : Binds X.K fd ps []) (hx : ∀ σ, PassesAt CX X σ (E σ)) (hd : plainNm x = true) (hs : noStars (e :: es) = true) (ha : PA X (e :: es) t) :
    PE X (.Call (.Name x p) (e :: es) [] pos) (tMakeS C sp E t) := by
  have hs' := hs
  simp only [noStars, List.all_cons, Bool.and_eq_true] at hs'
  refine ⟨fun pins s σ H Q I h => wpAny_Call_Name_kw (ld_glob I hg hm ?_ (plain_dbg hd))⟩
  refine PySem.W.callWith_K (h₀ := X.base) I.ok.mod.kin M.kp (thn (ha.run pos pins s σ H _ I h) fun us s1 ⟨vs, H1, I1, rr, q⟩ => ⟨I1.kIn, ?_⟩) (star_cons hs'.1) (by rw [backTo_any]; exact star_any hs'.2)
  exact run_makeS M F hr hb (hx σ) I1 rr q
theorem pe_makeS0 (M : Mk X.K C f) (F : FnOk X.prog X.w X.K X.mg X.base CX k f fd ps sp) (hr : Room (k + 1) X.A) (hg : Gl X x) (hm : X.mg x = some (.ref C)) (hb : Binds X.K fd ps []) (hx : ∀ σ, PassesAt CX X σ (E σ)) (hd : plainNm x = true) :
    PE X (.Call (.Name x p) [] [] pos) (tMakeS C sp E tNil) := by
  refine ⟨fun pins s σ H Q I h => wpAny_Call_Name_kw (ld_glob I hg hm ?_ (plain_dbg hd))⟩
  exact PySem.W.callWith_K0 I.kIn M.kp (run_makeS (us := []) M F hr hb (hx σ) I .nil h)
end
theorem isIns_of {x : W} {v : V} {C : Addr} {m : Str} (g : StOk X.K S H) (r : RepW X.K H x v) (h : isIns x C m S) : ∃ ad dx vs, v = .ref ad ∧ H ad = some (.ins C dx vs) ∧ vs.lookup m = none := by
  cases x <;> first | exact h.elim | skip
  rename_i ad
  cases r
  unfold isIns at h
  dsimp only at h
  split at h
  · rename_i D fs e
    obtain ⟨rfl, h⟩ := h
    obtain ⟨dx, vs, hv, rf⟩ := g _ _ e
    exact ⟨ad, dx, vs, rfl, hv, rf.look.2 h⟩
  · exact h.elim
theorem snd_meth {k : Nat} {f C : Addr} {fd : FuncData} {ps : List Str} {m : MSp} {n : Str} (hb0 : baseOk a = true) (cl : Cls X.K C) (hm : Meth X.K C n f) (F : FnOk X.prog X.w X.K X.mg X.base (L2.CX X.prog X.w) k f fd ps (liftSp X.K m)) (hr : Room k X.A) (hb : Binds X.K fd ps []) (tk : Takes X Wx)
    (hs : noStars (c :: es) = true) (hl : (c :: es).length < 30) (hline : (ap.endLine == pos.line) = true) (ha : PE X a (liftE X.K Wx ma)) (hes : PA X (c :: es) (liftA X.K Wx mes)) :
    Snd X Wx (.Call (.Attribute a n ap) (c :: es) [] pos) (fun σ S Q E => ma σ S (fun x S1 => isIns x C n S1 ∧ mes σ S1 (fun ws S2 => m (x :: ws) S2 Q E) E) E) := by
  refine Snd.plain (pe_weak (pe_methS (E := fun Z => WE Wx Z) hb0 ha cl hm F hr hb (fun σ => passAt tk σ) hs hl hline hes) fun Z H QV ⟨σ, S, Q, E, g, h, p, px⟩ => ?_) (fun _ => rfl) (fun ⟨_, _, _, z⟩ => by cases z)
  refine ⟨σ, S, _, E, g, h, fun x S1 v H1 h1 g1 e1 r1 => ?_, px⟩
  obtain ⟨ad, dx, vs, rfl, hv, hn⟩ := isIns_of g1.st r1 h1.1
  refine ⟨ad, dx, vs, rfl, hv, hn, σ, S1, _, E, g1, h1.2, fun ws S2 us H2 h2 g2 e2 r2 => ?_, px.next e1⟩
  exact liftSp_of g2 (.cons (e2.rep g1.st r1) r2) h2 (p.next (e1.trans e2)) (px.next (e1.trans e2))
theorem snd_meth0 {k : Nat} {f C : Addr} {fd : FuncData} {ps : List Str} {m : MSp} {n : Str} (hb0 : baseOk a = true) (cl : Cls X.K C) (hm : Meth X.K C n f) (F : FnOk X.prog X.w X.K X.mg X.base (L2.CX X.prog X.w) k f fd ps (liftSp X.K m)) (hr : Room k X.A) (hb : Binds X.K fd ps []) (tk : Takes X Wx)
    (hline : (ap.endLine == pos.line) = true) (ha : PE X a (liftE X.K Wx ma)) :
    Snd X Wx (.Call (.Attribute a n ap) [] [] pos) (fun σ S Q E => ma σ S (fun x S1 => isIns x C n S1 ∧ m [x] S1 Q E) E) := by
  refine Snd.plain (pe_weak (pe_methS0 (E := fun Z => WE Wx Z) hb0 ha cl hm F hr hb (fun σ => passAt tk σ) hline) fun Z H QV ⟨σ, S, Q, E, g, h, p, px⟩ => ?_) (fun _ => rfl) (fun ⟨_, _, _, z⟩ => by cases z)
  refine ⟨σ, S, _, E, g, h, fun x S1 v H1 h1 g1 e1 r1 => ?_, px⟩
  obtain ⟨ad, dx, vs, rfl, hv, hn⟩ := isIns_of g1.st r1 h1.1
  exact ⟨ad, dx, vs, rfl, hv, hn, liftSp_of g1 (.cons r1 .nil) h1.2 (p.next e1) (px.next e1)⟩
theorem make_of {C : Addr} {m : MSp} {ws : List W} {vs : List V} {Q : WQ} {E : XQ} {QV : VK} (g : Gd X.K σ S Z H) (r : RepWs X.K H ws vs) (h : ∀ p, S p = none → m (.ref p :: ws) (put S p (.ins C [])) (fun w S2 => w = .non ∧ Q (.ref p) S2) E) (p : PostE X.K σ S Z H Q QV) (px : PostX X.K Wx σ S Z H E) :
    ∀ y dy, H y = none → H dy = none → dy ≠ y → liftSp X.K m (.ref y :: vs) (upd (upd H dy (.own y)) y (.ins C dy [])) (fun v H2 => v = .non ∧ QV (.ref y) H2) (WE Wx Z) := fun y dy hy hdy hne => by
  have x1 : Ext S H S (upd H dy (.own y)) := Ext.fresh hdy
  have hy2 : upd H dy (.own y) y = none := by rw [upd_ne (Ne.symm hne)]; exact hy
  have x2 : Ext S (upd H dy (.own y)) (put S y (.ins C [])) (upd (upd H dy (.own y)) y (.ins C dy [])) := Ext.new hy2
  have x := x1.trans x2
  have s1 : StOk X.K S (upd H dy (.own y)) := g.st.fresh hdy
  have s2 : StOk X.K (put S y (.ins C [])) (upd (upd H dy (.own y)) y (.ins C dy [])) := s1.put_at x2 (fun b v n e => by rw [upd_ne n]; exact e) ⟨dy, [], upd_same, trivial⟩
  refine ⟨.ref y :: ws, put S y (.ins C []), _, E, .cons (.ref y) (x.reps g.st r), s2, h y (g.st.free hy), fun w S' v H' q s' e' r' => ?_, fun D S' H' q s' e' => px D S' H' q (g.next (x.trans e') s') (x.trans e')⟩
  obtain ⟨rfl, q⟩ := q
  cases r'
  exact ⟨rfl, p _ _ _ _ q (g.next (x.trans e') s') (x.trans e') (.ref y)⟩
theorem snd_make {k : Nat} {f C : Addr} {fd : FuncData} {ps : List Str} {m : MSp} {x : Str} {p : Pos} (M : Mk X.K C f) (F : FnOk X.prog X.w X.K X.mg X.base (L2.CX X.prog X.w) k f fd ps (liftSp X.K m)) (hr : Room (k + 1) X.A) (hg : Gl X x) (hm : X.mg x = some (.ref C)) (hb : Binds X.K fd ps []) (tk : Takes X Wx) (hd : plainNm x = true)
    (hs : noStars (c :: es) = true) (hes : PA X (c :: es) (liftA X.K Wx mes)) :
    Snd X Wx (.Call (.Name x p) (c :: es) [] pos) (fun σ S Q E => mes σ S (fun ws S1 => ∀ p, S1 p = none → m (.ref p :: ws) (put S1 p (.ins C [])) (fun w S2 => w = .non ∧ Q (.ref p) S2) E) E) := by
  refine Snd.plain (pe_weak (pe_makeS (E := fun Z => WE Wx Z) M F hr hg hm hb (fun σ => passAt tk σ) hd hs hes) fun Z H QV ⟨σ, S, Q, E, g, h, p, px⟩ => ?_) (fun _ => rfl) (fun ⟨_, _, _, z⟩ => by cases z)
  refine ⟨σ, S, _, E, g, h, fun ws S1 vs H1 h1 g1 e1 r1 => ?_, px⟩
  exact make_of g1 r1 h1 (p.next e1) (px.next e1)
theorem snd_make0 {k : Nat} {f C : Addr} {fd : FuncData} {ps : List Str} {m : MSp} {x : Str} {p : Pos} (M : Mk X.K C f) (F : FnOk X.prog X.w X.K X.mg X.base (L2.CX X.prog X.w) k f fd ps (liftSp X.K m)) (hr : Room (k + 1) X.A) (hg : Gl X x) (hm : X.mg x = some (.ref C)) (hb : Binds X.K fd ps []) (tk : Takes X Wx) (hd : plainNm x = true) :
    Snd X Wx (.Call (.Name x p) [] [] pos) (fun σ S Q E => ∀ p, S p = none → m [.ref p] (put S p (.ins C [])) (fun w S2 => w = .non ∧ Q (.ref p) S2) E) := by
  refine Snd.plain (pe_weak (pe_makeS0 (E := fun Z => WE Wx Z) M F hr hg hm hb (fun σ => passAt tk σ) hd) fun Z H QV ⟨σ, S, Q, E, g, h, p, px⟩ => ?_) (fun _ => rfl) (fun ⟨_, _, _, z⟩ => by cases z)
  exact make_of g .nil h p px
end
section
variable {X : Cx} {Wx : WX} {σ : Envr} {S : Sto} {Z : L2.St} {H : Hp}
variable {a b c r0 : Expr} {pos ap : Pos} {ma mb mc : MTE} {ml : Envr → Sto → LQ → XQ → Prop}
theorem relV_kW {K : PySem.W.Frag} (k : Key) : RepW K H (kW k) (kV k) := by
  cases k with
  | inl i => exact .int i
  | inr x => exact .str x
theorem snd_glb {x : Str} {k : Key} {u : Value} (hg : Gl X x) (hm : X.mg x = some u) (r : RelV (kV k) u) (hd : plainNm x = true) : Snd X Wx (.Name x pos) (fun _ S Q _ => Q (kW k) S) :=
  Snd.plain (pe_weak (pe_glob hg hm r (plain_dbg hd)) fun Z H QV ⟨σ, S, Q, E, g, h, p, px⟩ => p _ _ _ _ h g .refl (relV_kW k)) (fun _ => rfl) (fun ⟨_, _, _, z⟩ => by cases z)
theorem snd_strI {p : Pos} (hg : Gl X "str") (hm : X.mg "str" = none) (h1 : notStar a = true) (ha : PE X a (liftE X.K Wx ma)) :
    Snd X Wx (.Call (.Name "str" p) [a] [] pos) (fun σ S Q E => ma σ S (fun x S1 => strW x fun w => Q w S1) E) := by
  refine call_plain (pe_blt1 (op := fun x S Q => strW x fun w => Q w S) (callOk_t (call_str_int.or SkE.call_str_str) hg hm PyProof.Rows.boot_str (by decide) (by decide)) h1 ha fun w v σ S Z H Q QV g r h p => ?_)
  cases w <;> first | exact h.elim | skip
  · cases r
    exact .inl ⟨_, rfl, h.1, p _ _ _ _ h.2 g .refl (.str _)⟩
  · cases r
    exact .inr ⟨_, rfl, p _ _ _ _ h g .refl (.str _)⟩
theorem snd_intE {p : Pos} (hg : Gl X "int") (hm : X.mg "int" = none) (h1 : notStar a = true) (ha : PE X a (liftE X.K Wx ma)) :
    Snd X Wx (.Call (.Name "int" p) [a] [] pos) (fun σ S Q E => ma σ S (fun x S1 => intW x fun w => Q w S1) E) := by
  refine call_plain (pe_blt1 (op := fun x S Q => intW x fun w => Q w S) (callOk_t (CallR.or call_int1 call_int_str) hg hm PyProof.Rows.boot_int (by decide) (by decide)) h1 ha fun w v σ S Z H Q QV g r h p => ?_)
  cases w <;> first | exact h.elim | skip
  · cases r; exact .inl (.inr ⟨_, rfl, p _ _ _ _ h g .refl (.int _)⟩)
  · cases r; exact .inl (.inl ⟨_, rfl, p _ _ _ _ h g .refl (.int _)⟩)
  · cases r; obtain ⟨hl, n, hn, h⟩ := h; exact .inr ⟨_, n, rfl, hn, hl, p _ _ _ _ h g .refl (.int _)⟩
theorem snd_absI {p : Pos} (hg : Gl X "abs") (hm : X.mg "abs" = none) (h1 : notStar a = true) (ha : PE X a (liftE X.K Wx ma)) :
    Snd X Wx (.Call (.Name "abs" p) [a] [] pos) (fun σ S Q E => ma σ S (fun x S1 => absW x fun w => Q w S1) E) := by
  refine call_plain (pe_blt1 (op := fun x S Q => absW x fun w => Q w S) (callOk_b call_abs hg hm PyProof.Rows.boot_abs (by decide) (by decide)) h1 ha fun w v σ S Z H Q QV g r h p => ?_)
  cases w <;> first | exact h.elim | skip
  cases r
  exact ⟨_, rfl, p _ _ _ _ h g .refl (.int _)⟩
theorem snd_isx {x : Expr} {y : Str} {p p2 : Pos} {D ad : Addr} {cv : Value} {cw : V} {b : Bool} (hr : CallR X (.builtin "isinstance") (rIsE X.K D ad)) (hg : Gl X "isinstance") (hm : X.mg "isinstance" = none) (hc : PE X (.Name y p2) (tC cw)) (hcv : ∀ u, RelV cw u → u = cv) (hk : PySem.W.kitOne X.K (.ref D) cv = some b) (h1 : notStar x = true) (ha : PE X x (liftE X.K Wx ma)) :
    Snd X Wx (.Call (.Name "isinstance" p) [x, .Name y p2] [] pos) (fun σ S Q E => ma σ S (fun x S1 => x = .ref ad ∧ Q (.bl b) S1) E) := by
  refine call_plain (pe_weak ((callOk_b hr hg hm PyProof.Rows.boot_isinstance (by decide) (by decide)) (by simp only [noStars, List.all_cons, h1, Bool.true_and]; rfl) (pa_cons ha (pa_cons hc pa_nil (star_cons rfl)) (star_cons h1))) fun Z H QV ⟨σ, S, Q, E, g, h, p, px⟩ => ?_)
  refine ⟨σ, S, _, E, g, h, fun w S1 v H1 q g1 e1 r1 => ?_, px⟩
  obtain ⟨rfl, q⟩ := q
  cases r1
  exact ⟨cw, cv, b, rfl, hcv, hk, p _ _ _ _ q g1 e1 (.bl _)⟩
def tAs (vs : List V) : TA := fun _ H Q => Q vs H
theorem snd_isxT {x : Expr} {ys : List Expr} {p p2 : Pos} {k : Nat} {D ad : Addr} {cs : List V} {us : List Value} {b : Bool} (hr : CallR X (.builtin "isinstance") (rIsET X.K D ad)) (hg : Gl X "isinstance") (hm : X.mg "isinstance" = none) (hp : PA X ys (tAs cs)) (hl : cs.length ≤ sizeLine) (hc : Paired ClsV cs us) (hk : PySem.W.kitAny X.K (.ref D) us = some b) (h1 : notStar x = true) (ha : PE X x (liftE X.K Wx ma)) :
    Snd X Wx (.Call (.Name "isinstance" p) [x, .Tuple ys k p2] [] pos) (fun σ S Q E => ma σ S (fun x S1 => x = .ref ad ∧ Q (.bl b) S1) E) := by
  refine call_plain (pe_weak ((callOk_b hr hg hm PyProof.Rows.boot_isinstance (by decide) (by decide)) (by simp only [noStars, List.all_cons, h1, Bool.true_and]; rfl) (pa_cons ha (pa_cons (pe_tup hp) pa_nil (star_cons rfl)) (star_cons h1))) fun Z H QV ⟨σ, S, Q, E, g, h, p, px⟩ => ?_)
  refine ⟨σ, S, _, E, g, h, fun w S1 v H1 q g1 e1 r1 => ?_, px⟩
  obtain ⟨rfl, q⟩ := q
  cases r1
  refine ⟨hl, fun tp htp => ?_⟩
  exact ⟨tp, cs, us, b, rfl, upd_same, hc, hk, p _ _ _ _ q (g1.next (Ext.fresh htp) (g1.st.fresh htp)) (e1.trans (Ext.fresh htp)) (.bl _)⟩
theorem snd_isx0 {x y : Expr} {p : Pos} (hg : Gl X "isinstance") (hm : X.mg "isinstance" = none) (h1 : notStar x = true) (h2 : notStar y = true) (ha : PE X x (liftE X.K Wx ma)) :
    Snd X Wx (.Call (.Name "isinstance" p) [x, y] [] pos) (fun σ S Q E => ma σ S (fun _ _ => False) E) := by
  refine call_plain (pe_weak ((callOk_b (r := fun _ _ _ => False) (fun _ _ _ _ _ _ _ _ _ z => z.elim) hg hm PyProof.Rows.boot_isinstance (by decide) (by decide)) (by simp only [noStars, List.all_cons, h1, h2, Bool.true_and]; rfl) (pa_cons ha (pa_cons (te := fun _ _ _ => False) ⟨fun _ _ _ _ _ _ z => z.elim⟩ pa_nil (star_cons h2)) (star_cons h1))) fun Z H QV ⟨σ, S, Q, E, g, h, p, px⟩ => ?_)
  exact ⟨σ, S, _, E, g, h, fun w S1 v H1 q g1 e1 r1 => q.elim, px⟩
theorem strsOf_eq : ∀ {ws : List W} {ns : List Str}, strsOf ws = some ns → ws = ns.map W.str
  | [], _, h => by cases h; rfl
  | .str i :: r, ns, h => by
    simp only [strsOf] at h
    cases e : strsOf r with
    | none => rw [e] at h; cases h
    | some ms => rw [e] at h; cases h; rw [strsOf_eq e]; rfl
  | .non :: _, _, h => by cases h
  | .int _ :: _, _, h => by cases h
  | .bl _ :: _, _, h => by cases h
  | .ref _ :: _, _, h => by cases h
  | .ty _ :: _, _, h => by cases h
  | .tup _ :: _, _, h => by cases h
  | .rol _ :: _, _, h => by cases h
theorem RepWs.strs {K : PySem.W.Frag} : ∀ {ns : List Str} {vs : List V}, RepWs K H (ns.map W.str) vs → vs = ns.map V.str
  | [], _, .nil => rfl
  | _ :: _, _, .cons (.str i) t => by rw [RepWs.strs t]; rfl
theorem snd_join (hl : (ap.endLine == pos.line) = true) (h1 : notStar a = true) (hb0 : baseOk r0 = true) (ho : PE X r0 (liftE X.K Wx ma)) (ha : PE X a (liftL X.K Wx ml)) :
    Snd X Wx (.Call (.Attribute r0 "join" ap) [a] [] pos) (fun σ S Q E => ma σ S (fun x S1 => (∃ z, x = .str z) ∧ ml σ S1 (fun ws _ _ S2 => joinW x ws fun w => Q w S2) E) E) := by
  refine Snd.plain (pe_weak (pe_bm PySem.F.plainAttrs_str PySem.F.slot_str_join PySem.F.type_str_join mt_join ho (pa_cons ha pa_nil (star_cons h1)) (base_ok hb0) (bm_few h1) hl (star_cons h1) rfl) fun Z H QV ⟨σ, S, Q, E, g, h, p, px⟩ => ?_) (fun _ => rfl) (fun ⟨_, _, _, z⟩ => by cases z)
  refine ⟨σ, S, _, E, g, h, fun x S1 v1 H1 h1 g1 e1 r1 => ?_, px⟩
  obtain ⟨⟨z, rfl⟩, h1⟩ := h1
  cases r1
  refine ⟨rfl, σ, S1, _, E, g1, h1, fun ws k st S2 v2 H2 h2 g2 e2 r2 => ?_, px.next e1⟩
  unfold joinW at h2
  dsimp only at h2
  cases es : strsOf ws with
  | none => rw [es] at h2; exact h2.elim
  | some ys =>
    rw [es] at h2
    obtain ⟨p1, vs1, rfl, rr1, ka1⟩ := r2.now g2.st
    rw [strsOf_eq es] at rr1
    obtain rfl := rr1.strs
    exact ⟨z, p1, ys, rfl, rfl, ka1.seq, h2.1, p _ _ _ _ h2.2 g2 (e1.trans e2) (.str _)⟩
theorem lstW_of {x : W} {v : V} {Q : Addr → List W → Prop} {K : PySem.W.Frag} (g : StOk K S H) (r : RepW K H x v) (h : lstW x S Q) : ∃ l ws vs, x = .ref l ∧ v = .ref l ∧ S l = some (.lst ws) ∧ H l = some (.lst vs) ∧ RepWs K H ws vs ∧ Q l ws := by
  cases x <;> first | exact h.elim | skip
  rename_i l
  cases r
  unfold lstW at h
  dsimp only at h
  split at h
  · rename_i ws e
    obtain ⟨vs, hv, rv⟩ := g _ _ e
    exact ⟨l, ws, vs, rfl, rfl, e, hv, rv, h⟩
  · exact h.elim
theorem bm_few2 {pos : Pos} (h1 : notStar a = true) (h2 : notStar b = true) : ((backTo pos (starEach [a, b] X.env)).all (fun x => !x.1) && (backToKw pos (keywordEach [] X.env)).all (fun x => x.1.isSome)
      && decide ([a, b].length + ([] : List Keyword).length + (if ([] : List Keyword).isEmpty then 0 else 1) < 30)) = true := by
  rw [star_cons h1, star_cons h2]; rfl
theorem snd_ins {d : Expr} {md : MTE} (hl : (ap.endLine == pos.line) = true) (h1 : notStar a = true) (h2 : notStar d = true) (hb0 : baseOk r0 = true) (ho : PE X r0 (liftE X.K Wx ma)) (ha : PE X a (liftE X.K Wx mb)) (hd : PE X d (liftE X.K Wx md)) :
    Snd X Wx (.Call (.Attribute r0 "insert" ap) [a, d] [] pos) (fun σ S Q E => ma σ S (fun x S1 => isLst x S1 ∧ mb σ S1 (fun y S2 => md σ S2 (fun z S3 => lstW x S3 fun a ws => match y with
    | .int k => ws.length < sizeLine ∧ 0 ≤ k ∧ k < 2 ^ 63 ∧ Q .non (put S3 a (.lst (ws.take k.toNat ++ [z] ++ ws.drop k.toNat)))
    | _ => False) E) E) E) := by
  refine Snd.plain (pe_weak (pe_bm PySem.F.plainAttrs_list PySem.F.slot_list_insert PySem.F.type_list_insert mt_insert ho (pa_cons ha (pa_cons hd pa_nil (star_cons h2)) (star_cons h1)) (base_ok hb0) (bm_few2 h1 h2) hl (star_cons h1) (by rw [backTo_any]; exact star_any (by simp [noStars, h2]))) fun Z H QV ⟨σ, S, Q, E, g, h, p, px⟩ => ?_) (fun _ => rfl) (fun ⟨_, _, _, z⟩ => by cases z)
  refine ⟨σ, S, _, E, g, h, fun x S1 v1 H1 h1 g1 e1 r1 => ⟨isLst_ty g1.st r1 h1.1, ?_⟩, px⟩
  refine ⟨σ, S1, _, E, g1, h1.2, fun y S2 v2 H2 h2 g2 e2 r2 => ?_, px.next e1⟩
  refine ⟨σ, S2, _, E, g2, h2, fun z S3 v3 H3 h3 g3 e3 r3 => ?_, px.next (e1.trans e2)⟩
  obtain ⟨l, ws, vs, rfl, rfl, e, hv, rv, h3⟩ := lstW_of g3.st ((e2.trans e3).rep g1.st r1) h3
  cases y <;> first | exact h3.elim | skip
  cases r2
  obtain ⟨k1, k2, k3, k4⟩ := h3
  exact ⟨l, vs, _, v3, rfl, rfl, hv, by rw [← rv.length]; exact k1, k2, k3, post_set (p.next ((e1.trans e2).trans e3)) g3 e (((rv.take _).append (.cons r3 .nil)).append (rv.drop _)) .non k4⟩
theorem snd_rem (hl : (ap.endLine == pos.line) = true) (h1 : notStar a = true) (hb0 : baseOk r0 = true) (ho : PE X r0 (liftE X.K Wx ma)) (ha : PE X a (liftE X.K Wx mb)) :
    Snd X Wx (.Call (.Attribute r0 "remove" ap) [a] [] pos) (fun σ S Q E => ma σ S (fun x S1 => isLst x S1 ∧ mb σ S1 (fun y S2 => remW x y S2 fun S3 => Q .non S3) E) E) := by
  refine Snd.plain (pe_weak (pe_bm PySem.F.plainAttrs_list PySem.F.slot_list_remove PySem.F.type_list_remove mt_remove ho (pa_cons ha pa_nil (star_cons h1)) (base_ok hb0) (bm_few h1) hl (star_cons h1) rfl) fun Z H QV ⟨σ, S, Q, E, g, h, p, px⟩ => ?_) (fun _ => rfl) (fun ⟨_, _, _, z⟩ => by cases z)
  refine ⟨σ, S, _, E, g, h, fun x S1 v1 H1 h1 g1 e1 r1 => ⟨isLst_ty g1.st r1 h1.1, ?_⟩, px⟩
  refine ⟨σ, S1, _, E, g1, h1.2, fun y S2 v2 H2 h2 g2 e2 r2 => ?_, px.next e1⟩
  obtain ⟨l, ws, vs, rfl, rfl, e, hv, rv, h3⟩ := lstW_of g2.st (e2.rep g1.st r1) h2
  split at h3
  · rename_i ns k en
    cases r2
    rw [intsOf_eq en] at rv
    obtain rfl := rv.ints
    obtain ⟨j, j1, j2, j3⟩ := h3
    exact ⟨l, ns, k, j, rfl, rfl, hv, j1, j2, post_set (p.next (e1.trans e2)) g2 e (RepWs.ofInts _) .non j3⟩
  · exact h3.elim
theorem flat_ints (ns : List Int) : (ns.map V.int).all flatV = true := by
  induction ns with
  | nil => rfl
  | cons n ns ih => rw [List.map_cons, List.all_cons, ih]; rfl
theorem snd_ixo (hl : (ap.endLine == pos.line) = true) (h1 : notStar a = true) (hb0 : baseOk r0 = true) (ho : PE X r0 (liftE X.K Wx ma)) (ha : PE X a (liftE X.K Wx mb)) :
    Snd X Wx (.Call (.Attribute r0 "index" ap) [a] [] pos) (fun σ S Q E => ma σ S (fun x S1 => isLst x S1 ∧ mb σ S1 (fun y S2 => ixoW x y S2 fun w => Q w S2) E) E) := by
  refine Snd.plain (pe_weak (pe_bm PySem.F.plainAttrs_list PySem.F.slot_list_index PySem.F.type_list_index mt_index ho (pa_cons ha pa_nil (star_cons h1)) (base_ok hb0) (bm_few h1) hl (star_cons h1) rfl) fun Z H QV ⟨σ, S, Q, E, g, h, p, px⟩ => ?_) (fun _ => rfl) (fun ⟨_, _, _, z⟩ => by cases z)
  refine ⟨σ, S, _, E, g, h, fun x S1 v1 H1 h1 g1 e1 r1 => ⟨isLst_ty g1.st r1 h1.1, ?_⟩, px⟩
  refine ⟨σ, S1, _, E, g1, h1.2, fun y S2 v2 H2 h2 g2 e2 r2 => ?_, px.next e1⟩
  obtain ⟨l, ws, vs, rfl, rfl, e, hv, rv, h3⟩ := lstW_of g2.st (e2.rep g1.st r1) h2
  split at h3
  · rename_i ns k en
    cases r2
    rw [intsOf_eq en] at rv
    obtain rfl := rv.ints
    obtain ⟨j, j1, j2, j3⟩ := h3
    refine ⟨l, _, .int k, j, .int k, rfl, rfl, SqL.of hv, rfl, flat_ints ns, by rw [List.getElem?_map, j1]; rfl, by simp [eqV], fun m z' hm hz => ?_, p _ _ _ _ j3 g2 (e1.trans e2) (.int _)⟩
    rw [List.getElem?_map] at hz
    cases ez : ns[m]? with
    | none => rw [ez] at hz; cases hz
    | some i =>
      rw [ez] at hz; cases hz
      have := j2 m hm
      rw [ez] at this
      simp [eqV]
      intro q; exact this (by rw [q])
  · exact h3.elim
theorem snd_revm (hl : (ap.endLine == pos.line) = true) (hb0 : baseOk r0 = true) (ho : PE X r0 (liftE X.K Wx ma)) :
    Snd X Wx (.Call (.Attribute r0 "reverse" ap) [] [] pos) (fun σ S Q E => ma σ S (fun x S1 => lstW x S1 fun a ws => Q .non (put S1 a (.lst ws.reverse))) E) := by
  refine Snd.plain (pe_weak (pe_bm0 PySem.F.plainAttrs_list PySem.F.slot_list_reverse PySem.F.type_list_reverse mt_reverse ho (base_ok hb0) hl) fun Z H QV ⟨σ, S, Q, E, g, h, p, px⟩ => ?_) (fun _ => rfl) (fun ⟨_, _, _, z⟩ => by cases z)
  refine ⟨σ, S, _, E, g, h, fun x S1 v1 H1 h1 g1 e1 r1 => ?_, px⟩
  obtain ⟨l, ws, vs, rfl, rfl, e, hv, rv, h3⟩ := lstW_of g1.st r1 h1
  exact ⟨.inl ⟨rfl, _, SqL.of hv⟩, l, vs, rfl, rfl, hv, post_set (p.next e1) g1 e rv.reverse .non h3⟩
theorem snd_clr (hl : (ap.endLine == pos.line) = true) (hb0 : baseOk r0 = true) (ho : PE X r0 (liftE X.K Wx ma)) :
    Snd X Wx (.Call (.Attribute r0 "clear" ap) [] [] pos) (fun σ S Q E => ma σ S (fun x S1 => lstW x S1 fun a _ => Q .non (put S1 a (.lst []))) E) := by
  refine Snd.plain (pe_weak (pe_bm0 PySem.F.plainAttrs_list PySem.F.slot_list_clear PySem.F.type_list_clear mt_clear ho (base_ok hb0) hl) fun Z H QV ⟨σ, S, Q, E, g, h, p, px⟩ => ?_) (fun _ => rfl) (fun ⟨_, _, _, z⟩ => by cases z)
  refine ⟨σ, S, _, E, g, h, fun x S1 v1 H1 h1 g1 e1 r1 => ?_, px⟩
  obtain ⟨l, ws, vs, rfl, rfl, e, hv, rv, h3⟩ := lstW_of g1.st r1 h1
  exact ⟨.inl ⟨rfl, _, SqL.of hv⟩, l, vs, rfl, rfl, hv, post_set (p.next e1) g1 e .nil .non h3⟩
theorem RepWs.flat {K : PySem.W.Frag} {ws : List W} {vs : List V} (r : RepWs K H ws vs) (n : Nat) : RepWs K H (List.replicate n ws).flatten (List.replicate n vs).flatten := by
  induction n with
  | zero => exact .nil
  | succ n ih => rw [List.replicate_succ, List.replicate_succ, List.flatten_cons, List.flatten_cons]; exact r.append ih
theorem sndT_rep (ha : PE X a (liftL X.K Wx ml)) (hb : PE X b (liftE X.K Wx mb)) :
    SndT X Wx (.BinOp a .Mult b pos) (fun σ S Q E => ml σ S (fun xs k st S1 => mb σ S1 (fun y S2 => match y with
    | .int i => k = .ls ∧ st S2 ∧ 0 ≤ i ∧ i ≤ 1000000 ∧ xs.length * i.toNat ≤ sizeLine ∧ Q (List.replicate i.toNat xs).flatten S2
    | _ => False) E) E) := by
  refine ⟨pe_weak (pe_op op_rep ha hb) fun Z H QV ⟨σ, S, Q, E, g, h, p, px⟩ => ?_, fun _ => rfl, fun ⟨_, _, _, z⟩ => by cases z⟩
  refine ⟨σ, S, _, E, g, h, fun xs k st S1 v1 H1 h1 g1 e1 r1 => ?_, px⟩
  refine ⟨σ, S1, _, E, g1, h1, fun y S2 v2 H2 h2 g2 e2 r2 => ?_, px.next e1⟩
  cases y <;> first | exact h2.elim | skip
  cases r2
  obtain ⟨rfl, hst, k1, k2, k3, hq⟩ := h2
  obtain ⟨p1, vs1, rfl, rr1, ka1⟩ := (r1.next e2 hst).now g2.st
  exact ⟨p1, _, vs1, rfl, rfl, ka1, by omega, by omega, by rw [← rr1.length]; exact k3, fun l hl => post_lst (PostT.next p (e1.trans e2)) g2 hl (rr1.flat _) hq⟩
theorem snd_dnew {t : Bool} : Snd X Wx (.Dict [] [] pos) (fun _ S Q _ => ∀ p, S p = none → Q (.ref p) (put S p (if t = true then .dt false [] else .dk false []))) := by
  cases t with
  | true =>
    refine Snd.plain (pe_weak pe_dnewT fun Z H QV ⟨σ, S, Q, E, g, h, p, px⟩ => ?_) (fun _ => rfl) (fun ⟨_, _, _, z⟩ => by cases z)
    intro q hq
    have x : Ext S H (put S q (.dt false [])) (upd H q (.dT [])) := Ext.new hq
    exact p _ _ _ _ (h q (g.st.free hq)) (g.next x (g.st.put_at x (fun b v n e => by rw [upd_ne n]; exact e) ⟨[], upd_same, trivial⟩)) x (.ref q)
  | false =>
    refine Snd.plain (pe_weak pe_dnewK fun Z H QV ⟨σ, S, Q, E, g, h, p, px⟩ => ?_) (fun _ => rfl) (fun ⟨_, _, _, z⟩ => by cases z)
    intro q hq
    have x : Ext S H (put S q (.dk false [])) (upd H q (.dK [])) := Ext.new hq
    exact p _ _ _ _ (h q (g.st.free hq)) (g.next x (g.st.put_at x (fun b v n e => by rw [upd_ne n]; exact e) ⟨[], upd_same, trivial⟩)) x (.ref q)
theorem m1_of {m : Str} (hl : (ap.endLine == pos.line) = true) (h1 : notStar a = true) (hb0 : baseOk r0 = true) : M1 X r0 m ap a pos := ⟨base_ok hb0, bm_few h1, hl, by rw [star_cons h1]; rfl⟩
theorem m2_of {m : Str} (hl : (ap.endLine == pos.line) = true) (h1 : notStar a = true) (h2 : notStar b = true) (hb0 : baseOk r0 = true) : M2 X r0 m ap a b pos := ⟨base_ok hb0, bm_few2 h1 h2, hl, by rw [star_cons h1, star_cons h2]; rfl⟩
theorem snd_dpop (hl : (ap.endLine == pos.line) = true) (h1 : notStar a = true) (hb0 : baseOk r0 = true) (ho : PE X r0 (liftE X.K Wx ma)) (ha : PE X a (liftE X.K Wx mb)) :
    Snd X Wx (.Call (.Attribute r0 "pop" ap) [a] [] pos) (fun σ S Q E => ma σ S (fun x S1 => (∃ a kvs, x = .ref a ∧ S1 a = some (.dk false kvs)) ∧ mb σ S1 (fun y S2 => dkW x S2 fun a kvs => match keyW y with
    | some k => (match valD kvs k with
      | some w => Q w (put S2 a (.dk false (dropD kvs k)))
      | none => False)
    | none => False) E) E) := by
  refine Snd.plain (pe_weak (pe_dpop1 ho ha (m1_of hl h1 hb0)) fun Z H QV ⟨σ, S, Q, E, g, h, p, px⟩ => ?_) (fun _ => rfl) (fun ⟨_, _, _, z⟩ => by cases z)
  refine ⟨σ, S, _, E, g, h, fun x S1 v1 H1 h1 g1 e1 r1 => ?_, px⟩
  obtain ⟨⟨ad, kvs0, rfl, e0⟩, h1⟩ := h1
  cases r1
  obtain ⟨vs0, hv0, _⟩ := g1.st _ _ e0
  refine ⟨ad, rfl, .inl ⟨vs0, .inl hv0⟩, σ, S1, _, E, g1, h1, fun y S2 v2 H2 h2 g2 e2 r2 => ?_, px.next e1⟩
  unfold dkW at h2
  dsimp only at h2
  split at h2
  · rename_i kvs e
    obtain ⟨vs, hv, rf⟩ := g2.st _ _ e
    split at h2
    · rename_i k hk
      split at h2
      · rename_i w ew
        obtain ⟨v, ev, rv⟩ := rf.val.1 w ew
        have x : Ext S2 H2 (put S2 ad (.dk false (dropD kvs k))) (upd H2 ad (.dK (dropK vs k))) := Ext.write (by rw [e]; exact fun z => by cases z) (g2.st.nfK e)
        exact ⟨vs, k, v, hv, keyW_rep r2 hk, ev, p _ _ _ _ h2 (g2.next x (g2.st.setDk e rf.drop)) ((e1.trans e2).trans x) (x.rep g2.st rv)⟩
      · exact h2.elim
    · exact h2.elim
  · exact h2.elim
theorem snd_dget {d : Expr} {md : MTE} (hu : X.A.units + 1 < cLine) (hl : (ap.endLine == pos.line) = true) (h1 : notStar a = true) (h2 : notStar d = true) (hb0 : baseOk r0 = true) (ho : PE X r0 (liftE X.K Wx ma)) (ha : PE X a (liftE X.K Wx mb)) (hd : PE X d (liftE X.K Wx md)) :
    Snd X Wx (.Call (.Attribute r0 "get" ap) [a, d] [] pos) (fun σ S Q E => ma σ S (fun x S1 => (∃ a, x = .ref a ∧ ((∃ f kvs, S1 a = some (.dk f kvs)) ∨ ∃ f kvs, S1 a = some (.dt f kvs))) ∧ mb σ S1 (fun y S2 => md σ S2 (fun z S3 => dgetW x y z S3 fun w => Q w S3) E) E) E) := by
  refine Snd.plain (pe_weak (pe_dget2 hu ho ha hd (m2_of hl h1 h2 hb0)) fun Z H QV ⟨σ, S, Q, E, g, h, p, px⟩ => ?_) (fun _ => rfl) (fun ⟨_, _, _, z⟩ => by cases z)
  refine ⟨σ, S, _, E, g, h, fun x S1 v1 H1 h1 g1 e1 r1 => ?_, px⟩
  obtain ⟨⟨ad, rfl, hd⟩, h1⟩ := h1
  cases r1
  have isd : IsD H1 ad := by
    rcases hd with ⟨f, kvs, e⟩ | ⟨f, kvs, e⟩
    · obtain ⟨vs, ez, _⟩ := g1.st _ _ e; exact .inl ⟨vs, ez.rd⟩
    · obtain ⟨vs, ez, _⟩ := g1.st _ _ e; exact .inr ⟨vs, ez.rd⟩
  refine ⟨ad, rfl, isd, σ, S1, _, E, g1, h1, fun y S2 v2 H2 h2 g2 e2 r2 => ?_, px.next e1⟩
  refine ⟨σ, S2, _, E, g2, h2, fun z S3 v3 H3 h3 g3 e3 r3 => ?_, px.next (e1.trans e2)⟩
  have ry := e3.rep g2.st r2
  have go : ∀ {w : W} {v : V}, RepW X.K H3 w v → Q w S3 → QV v H3 := fun r q => p _ _ _ _ q g3 ((e1.trans e2).trans e3) r
  unfold dgetW at h3
  dsimp only at h3
  split at h3
  · rename_i f kvs e
    obtain ⟨vs, ez, rf⟩ := g3.st _ _ e
    split at h3
    · rename_i k hk
      refine ⟨valV vs k, .inl ⟨vs, k, ez.rd, keyW_rep ry hk, rfl⟩, ?_⟩
      cases ev : valD kvs k with
      | none => rw [rf.val.2 ev]; exact go r3 (by simpa [ev] using h3)
      | some w => obtain ⟨v, e2', rv⟩ := rf.val.1 w ev; rw [e2']; exact go rv (by simpa [ev] using h3)
    · exact h3.elim
  · rename_i f kvs e
    obtain ⟨vs, ez, rf⟩ := g3.st _ _ e
    split at h3
    · rename_i k hk
      obtain ⟨b, e4, e5⟩ := tkeyW_rep ry hk
      refine ⟨valV vs k, .inr ⟨vs, k, b, ez.rd, e4, e5, rfl⟩, ?_⟩
      cases ev : valD kvs k with
      | none => rw [rf.val.2 ev]; exact go r3 (by simpa [ev] using h3)
      | some w => obtain ⟨v, e2', rv⟩ := rf.val.1 w ev; rw [e2']; exact go rv (by simpa [ev] using h3)
    · exact h3.elim
  · exact h3.elim
end
section
variable {X : Cx} {Wx : WX} {σ : Envr} {S : Sto} {Z : L2.St} {H : Hp} {pos : Pos}
theorem ps_rseL {D : Addr} {x m : Str} {j : Nat} {p p2 p3 : Pos} (hc : X.calm = true) (tk : Takes X Wx) (F : ExFacts X D x) (hg : Gl X x) (hd : plainNm x = true) :
    PS X (.Raise (some (.Call (.Name x p) [.Constant (.str m) j p2] [] p3)) none pos) (liftS X.K Wx fun E σ S => E.ex σ D S) := by
  refine ps_weak (ps_raise hc tk (pmk_own PySem.F.excBase_ValueError F.xin F.glo F.kp (raises_own F.bs F.ty) hg (plain_dbg hd))) fun E Z H ⟨σ, S, E', g, h, k1, k2, k3, k4, k5⟩ => ?_
  exact k5 _ _ _ _ _ h g .refl
theorem Gd.unset {K : PySem.W.Frag} (g : Gd K σ S Z H) (i : Nat) : Gd K (σ.set i none) S (Z.set i none) H where
  len := by simp [g.len]
  sl := fun j u e => by
    rw [List.getElem?_set] at e ⊢
    by_cases h : i = j
    · rw [if_pos h] at e
      split at e <;> cases e
    · rw [if_neg h] at e ⊢
      exact g.sl j u e
  st := g.st
def tsuite (K : PySem.W.Frag) (G : Gs) (s : ISs) : Addr → Value → Option Addr → TS := fun a cls d D Z H => ∃ n, n ∈ G.ex ∧ cls = .ref (G.cl n) ∧ d = none ∧ liftS K noW (wpSs { G with hx := some (a, n) } s) D Z H
theorem ps_tryOL {G : Gs} {b s : ISs} {c : Nat} {x : Str} {body suite : List Stmt} {s0 : Stmt} {np p2 : Pos} (hs : X.stack = X.env :: X.outer) (hf : X.env.frame = some X.env.locals) (hn : Names X x (.ref (G.cl c))) (tk : Takes X Wx)
    (hm : ∀ n ∈ G.ex, PySem.W.exmOne X.K (.ref (G.cl n)) (.ref (G.cl c)) = some (subX n c))
    (hb : ∀ (W : WX) (pn : List (Addr × Obj)) (xe : Value → Shared → Prop), Takes (X.tr pn xe) W → PassesOwn (model X.prog X.w) X.A X.env xe → PSs (X.tr pn xe) body (liftS X.K W (wpSs G b)))
    (hsu : ∀ (a : Addr) (oe : Obj) (n : Nat) (pn : List (Addr × Obj)), n ∈ G.ex → Zc (.ref (G.cl n)) none oe → (∃ vs, oe.data = .fields vs) → PSs (X.suite a ((a, oe) :: pn)) (s0 :: suite) (liftS X.K noW (wpSs { G with hx := some (a, n) } s))) :
    PS X (.Try body [.ExceptHandler (some (.Name x np)) none (s0 :: suite) p2] [] [] pos) (liftS X.K Wx (wpS G (.tryO b c s))) := by
  refine ps_weak (ps_try_only (tb := fun W => liftS X.K W (wpSs G b)) (ts := tsuite X.K G s) hs hf hn tk hb fun a oe cls d pn hz hd => ⟨fun pins s Z H D I ⟨n, hn, e1, e2, q⟩ => ?_⟩) fun D Z H ⟨σ, S, E, g, h, k1, k2, k3, k4, k5⟩ => ?_
  · subst e1 e2
    exact (hsu a oe n pn hn hz hd).run pins s Z H D I q
  · refine ⟨σ, S, _, g, h, k1, k2, k3, k4, ?_⟩
    rintro σ' C S' Z' H' ⟨n, hn, rfl, q⟩ g' e'
    refine ⟨_, hm n hn, fun hb a ha => ?_, fun hb => ?_⟩
    · rcases q with ⟨_, q⟩ | ⟨hf, _⟩
      · refine ⟨n, hn, rfl, rfl, σ', S', _, g', q a (g'.st.free ha), fun σ2 S2 Z2 H2 q2 g2 e2 => k1 _ _ _ _ q2 g2 (e'.trans e2), fun w S2 v H2 q2 g2 e2 r2 => k2 _ _ _ _ q2 g2 (e'.trans e2) r2, fun σ2 S2 Z2 H2 q2 g2 e2 => k3 _ _ _ _ q2 g2 (e'.trans e2), fun σ2 S2 Z2 H2 q2 g2 e2 => k4 _ _ _ _ q2 g2 (e'.trans e2), fun _ _ _ _ _ q2 _ _ => q2.elim⟩
      · rw [hf] at hb; cases hb
    · rcases q with ⟨ht, _⟩ | ⟨_, q⟩
      · rw [ht] at hb; cases hb
      · exact k5 _ _ _ _ _ q g' e'
theorem ps_tryAL {G : Gs} {b s : ISs} {c i : Nat} {x n : Str} {body suite : List Stmt} {s0 : Stmt} {np p2 : Pos} (hs : X.stack = X.env :: X.outer) (hf : X.env.frame = some X.env.locals) (hN : X.N.Nodup) (hi : X.N[i]? = some n) (hln : X.env.kindOf n = some .local) (hn : Names X x (.ref (G.cl c))) (tk : Takes X Wx)
    (hm : ∀ n ∈ G.ex, PySem.W.exmOne X.K (.ref (G.cl n)) (.ref (G.cl c)) = some (subX n c))
    (hb : ∀ (W : WX) (pn : List (Addr × Obj)) (xe : Value → Shared → Prop), Takes (X.tr pn xe) W → PassesOwn (model X.prog X.w) X.A X.env xe → PSs (X.tr pn xe) body (liftS X.K W (wpSs G b)))
    (hsu : ∀ (a : Addr) (oe : Obj) (n : Nat) (pn : List (Addr × Obj)), n ∈ G.ex → Zc (.ref (G.cl n)) none oe → (∃ vs, oe.data = .fields vs) → PSs (X.suite a ((a, oe) :: pn)) (s0 :: suite) (liftS X.K noW (wpSs { G with hx := some (a, n) } s))) :
    PS X (.Try body [.ExceptHandler (some (.Name x np)) (some n) (s0 :: suite) p2] [] [] pos) (liftS X.K Wx (wpS G (.tryA b c i s))) := by
  refine ps_weak (ps_try_as (tb := fun W => liftS X.K W (wpSs G b)) (ts := tsuite X.K G s) hs hf hN hi hln hn tk hb fun a oe cls d pn hz hd => ⟨fun pins s Z H D I ⟨n, hn, e1, e2, q⟩ => ?_⟩) fun D Z H ⟨σ, S, E, g, h, k1, k2, k3, k4, k5⟩ => ?_
  · subst e1 e2
    exact (hsu a oe n pn hn hz hd).run pins s Z H D I q
  · refine ⟨σ, S, _, g, h, k1, k2, k3, k4, ?_⟩
    rintro σ' C S' Z' H' ⟨n, hn, rfl, q⟩ g' e'
    refine ⟨_, hm n hn, fun hb a ha => ?_, fun hb => ?_⟩
    · rcases q with ⟨_, q⟩ | ⟨hf, _⟩
      · refine ⟨n, hn, rfl, rfl, σ'.set i (some (.ref a)), S', _, g'.set (.ref a) i, q a (g'.st.free ha), fun σ2 S2 Z2 H2 q2 g2 e2 => k1 _ _ _ _ q2 (g2.unset i) (e'.trans e2), fun w S2 v H2 q2 g2 e2 r2 => k2 _ _ _ _ q2 g2 (e'.trans e2) r2, fun σ2 S2 Z2 H2 q2 g2 e2 => k3 _ _ _ _ q2 (g2.unset i) (e'.trans e2), fun σ2 S2 Z2 H2 q2 g2 e2 => k4 _ _ _ _ q2 (g2.unset i) (e'.trans e2), fun _ _ _ _ _ q2 _ _ => q2.elim⟩
      · rw [hf] at hb; cases hb
    · rcases q with ⟨ht, _⟩ | ⟨_, q⟩
      · rw [ht] at hb; cases hb
      · exact k5 _ _ _ _ _ q g' e'
end
section
variable {X : Cx} {Wx : WX} {K : PySem.W.Frag} {σ : Envr} {S S1 S' : Sto} {Z : L2.St} {H H1 H' : Hp}
variable {a b c : Expr} {pos : Pos} {ma mb mc : MTE}
theorem resL_dp {f : W → Option PyData} (hf : ∀ w v d, RepW K H w v → f w = some d → Dp K H v d) : ∀ {ws : List W} {vs : List V} {ds : List PyData}, RepWs K H ws vs → resL f ws = some ds → DpAll K H vs ds
  | _, _, _, .nil, h => by cases h; exact .nil
  | _, _, _, .cons r rs, h => by
    unfold resL at h
    split at h
    · rename_i d ds e1 e2
      cases h
      exact .cons (hf _ _ _ r e1) (resL_dp hf rs e2)
    · cases h
theorem resW_dp (g : StOk K S H) : ∀ (n : Nat) (w : W) (v : V) (d : PyData), RepW K H w v → resW S n w = some d → Dp K H v d
  | 0, _, _, _, _, h => by cases h
  | n + 1, w, v, d, r, h => by
    unfold resW at h
    cases r with
    | non => cases h; exact .non
    | bl b => cases h; exact .bl b
    | int i => cases h; exact .int i
    | str x => cases h; exact .str x
    | tup q r =>
      dsimp only at h
      rw [Option.map_eq_some_iff] at h
      obtain ⟨ds, e, rfl⟩ := h
      exact .tup (SqT.of q) (resL_dp (resW_dp g n) r e)
    | rol q r =>
      dsimp only at h
      rw [Option.map_eq_some_iff] at h
      obtain ⟨ds, e, rfl⟩ := h
      exact .lst q.sql (resL_dp (resW_dp g n) r e)
    | ref a =>
      dsimp only at h
      split at h
      · rename_i ws es
        rw [Option.map_eq_some_iff] at h
        obtain ⟨ds, e, rfl⟩ := h
        obtain ⟨vs, e1, r1⟩ := g _ _ es
        exact .lst (SqL.of e1) (resL_dp (resW_dp g n) r1 e)
      · cases h
    | ty => cases h
theorem snd_deq {o : CmpOp} {k : Bool} (hk : (match o with | .Eq => k | .NotEq => !k | _ => false) = true) (hu : X.A.units + 64 < cLine) (ha : PE X a (liftE X.K Wx ma)) (hb : PE X b (liftE X.K Wx mb)) :
    Snd X Wx (.Compare a [o] [b] pos) (fun σ S Q E => ma σ S (fun x S1 => mb σ S1 (fun y S2 => deqW x y S2 fun z => Q (.bl (z == k)) S2) E) E) := by
  cases o <;> first | (simp at hk; done) | skip
  · have hk' : k = true := hk
    subst hk'
    refine Snd.cmp (pe_cmpR (op_eqD hu) ha hb (nomark _)) (pt_cmpR (op_eqD hu) ha hb (nomark _)) (fun Z H QV ⟨σ, S, Q, E, g, h, p, px⟩ => ?_) (fun ⟨_, _, _, z⟩ => by cases z)
    refine ⟨σ, S, _, E, g, h, fun x S1 v1 H1 h1 g1 e1 r1 => ?_, px⟩
    refine ⟨σ, S1, _, E, g1, h1, fun y S2 v2 H2 h2 g2 e2 r2 => ?_, px.next e1⟩
    obtain ⟨d, d', q1, q2, s1, s2, hq⟩ := h2
    refine ⟨_, _, resW_dp g2.st 8 _ _ _ (e2.rep g1.st r1) q1, resW_dp g2.st 8 _ _ _ r2 q2, s1, s2, p _ _ _ _ ?_ g2 (e1.trans e2) (.bl _)⟩
    cases z : PyData.eqv d d' <;> (rw [z] at hq; exact hq)
  · have hk' : k = false := by simpa using hk
    subst hk'
    refine Snd.cmp (pe_cmpR (op_neD hu) ha hb (nomark _)) (pt_cmpR (op_neD hu) ha hb (nomark _)) (fun Z H QV ⟨σ, S, Q, E, g, h, p, px⟩ => ?_) (fun ⟨_, _, _, z⟩ => by cases z)
    refine ⟨σ, S, _, E, g, h, fun x S1 v1 H1 h1 g1 e1 r1 => ?_, px⟩
    refine ⟨σ, S1, _, E, g1, h1, fun y S2 v2 H2 h2 g2 e2 r2 => ?_, px.next e1⟩
    obtain ⟨d, d', q1, q2, s1, s2, hq⟩ := h2
    refine ⟨_, _, resW_dp g2.st 8 _ _ _ (e2.rep g1.st r1) q1, resW_dp g2.st 8 _ _ _ r2 q2, s1, s2, p _ _ _ _ ?_ g2 (e1.trans e2) (.bl _)⟩
    cases z : PyData.eqv d d' <;> (rw [z] at hq; exact hq)
end
section
variable {X : Cx} {Wx : WX} {K : PySem.W.Frag} {σ : Envr} {S S1 S' : Sto} {Z : L2.St} {H H1 H' : Hp}
variable {a b c r0 e : Expr} {pos ap : Pos} {ma mb mc : MTE} {es : List Expr}
theorem setDkE {Q : W → Sto → Prop} {QV : VK} {p : Addr} {w : W} {v : V} {kvs kvs0 : List (Key × W)} {vs : List (Key × V)} (pE : PostE K σ S Z H Q QV) (g : Gd K σ S Z H) (e : S p = some (.dk false kvs0)) (r : RepF K H kvs vs) (rw' : RepW K H w v) (h : Q w (put S p (.dk false kvs))) : QV v (upd H p (.dK vs)) := by
  have x : Ext S H (put S p (.dk false kvs)) (upd H p (.dK vs)) := Ext.write (by rw [e]; exact fun z => by cases z) (g.st.nfK e)
  exact pE _ _ _ _ h (g.next x (g.st.setDk e r)) x (x.rep g.st rw')
theorem setDtE {Q : W → Sto → Prop} {QV : VK} {p : Addr} {w : W} {v : V} {kvs kvs0 : List (List Key × W)} {vs : List (List Key × V)} (pE : PostE K σ S Z H Q QV) (g : Gd K σ S Z H) (e : S p = some (.dt false kvs0)) (r : RepF K H kvs vs) (rw' : RepW K H w v) (h : Q w (put S p (.dt false kvs))) : QV v (upd H p (.dT vs)) := by
  have x : Ext S H (put S p (.dt false kvs)) (upd H p (.dT vs)) := Ext.write (by rw [e]; exact fun z => by cases z) (g.st.nfT e)
  exact pE _ _ _ _ h (g.next x (g.st.setDt e r)) x (x.rep g.st rw')
theorem snd_setd {d : Expr} {md : MTE} (hu : X.A.units + 1 < cLine) (hl : (ap.endLine == pos.line) = true) (h1 : notStar a = true) (h2 : notStar d = true) (hb0 : baseOk r0 = true) (ho : PE X r0 (liftE X.K Wx ma)) (ha : PE X a (liftE X.K Wx mb)) (hd : PE X d (liftE X.K Wx md)) :
    Snd X Wx (.Call (.Attribute r0 "setdefault" ap) [a, d] [] pos) (fun σ S Q E => ma σ S (fun x S1 => ((∃ a kvs, x = .ref a ∧ S1 a = some (.dk false kvs)) ∨ ∃ a kvs, x = .ref a ∧ S1 a = some (.dt false kvs)) ∧ mb σ S1 (fun y S2 => md σ S2 (fun z S3 => setdW x y z S3 Q) E) E) E) := by
  refine Snd.plain (pe_weak (pe_dsetd2 hu ho ha hd (m2_of hl h1 h2 hb0)) fun Z H QV ⟨σ, S, Q, E, g, h, p, px⟩ => ?_) (fun _ => rfl) (fun ⟨_, _, _, z⟩ => by cases z)
  refine ⟨σ, S, _, E, g, h, fun x S1 v1 H1 h1 g1 e1 r1 => ?_, px⟩
  obtain ⟨hx, h1⟩ := h1
  obtain ⟨ad, rfl, isd⟩ : ∃ ad, x = .ref ad ∧ IsD H1 ad := by
    rcases hx with ⟨ad, kvs, rfl, e⟩ | ⟨ad, kvs, rfl, e⟩
    · obtain ⟨vs, hv, _⟩ := g1.st _ _ e; exact ⟨ad, rfl, .inl ⟨vs, .inl hv⟩⟩
    · obtain ⟨vs, hv, _⟩ := g1.st _ _ e; exact ⟨ad, rfl, .inr ⟨vs, .inl hv⟩⟩
  cases r1
  refine ⟨ad, rfl, isd, σ, S1, _, E, g1, h1, fun y S2 v2 H2 h2 g2 e2 r2 => ?_, px.next e1⟩
  refine ⟨σ, S2, _, E, g2, h2, fun z S3 v3 H3 h3 g3 e3 r3 => ?_, px.next (e1.trans e2)⟩
  have ry := e3.rep g2.st r2
  unfold setdW at h3
  dsimp only at h3
  split at h3
  · rename_i kvs e
    obtain ⟨vs, hv, rf⟩ := g3.st _ _ e
    split at h3
    · rename_i k hk
      obtain ⟨hsz, h3⟩ := h3
      refine .inl ⟨vs, k, hv, keyW_rep ry hk, by rw [← rf.length]; exact hsz, fun v ev => ?_, fun ev => ?_⟩
      · cases ew : valD kvs k with
        | none => rw [rf.val.2 ew] at ev; cases ev
        | some w =>
          obtain ⟨v', ev', rv⟩ := rf.val.1 w ew
          rw [ev'] at ev
          cases ev
          rw [ew] at h3
          exact p _ _ _ _ h3 g3 ((e1.trans e2).trans e3) rv
      · cases ew : valD kvs k with
        | some w =>
          obtain ⟨v', ev', rv⟩ := rf.val.1 w ew
          rw [ev'] at ev
          cases ev
        | none =>
          rw [ew] at h3
          exact setDkE (p.next ((e1.trans e2).trans e3)) g3 e (rf.put r3) r3 h3
    · exact h3.elim
  · rename_i kvs e
    obtain ⟨vs, hv, rf⟩ := g3.st _ _ e
    split at h3
    · rename_i k hk
      obtain ⟨hsz, h3⟩ := h3
      obtain ⟨b, e4, e5⟩ := tkeyW_rep ry hk
      refine .inr ⟨vs, k, b, hv, e4, e5, by rw [← rf.length]; exact hsz, fun v ev => ?_, fun ev => ?_⟩
      · cases ew : valD kvs k with
        | none => rw [rf.val.2 ew] at ev; cases ev
        | some w =>
          obtain ⟨v', ev', rv⟩ := rf.val.1 w ew
          rw [ev'] at ev
          cases ev
          rw [ew] at h3
          exact p _ _ _ _ h3 g3 ((e1.trans e2).trans e3) rv
      · cases ew : valD kvs k with
        | some w =>
          obtain ⟨v', ev', rv⟩ := rf.val.1 w ew
          rw [ev'] at ev
          cases ev
        | none =>
          rw [ew] at h3
          exact setDtE (p.next ((e1.trans e2).trans e3)) g3 e (rf.put r3) r3 h3
    · exact h3.elim
  · exact h3.elim
theorem walk_rd {lo : Int} {n : Nat} : Walk K S H (rngdW lo n) (fun _ => True) (Itc lo (-1) n) := fun S2 H2 x2 g2 h2 => by
  refine ⟨fun i w hw => ?_, ?_⟩
  · unfold rngdW at hw
    rw [List.getElem?_map] at hw
    cases e : (List.range n)[i]? with
    | none => rw [e] at hw; cases hw
    | some j =>
      rw [e] at hw
      obtain ⟨h1, h2⟩ := List.getElem?_eq_some_iff.mp e
      rw [List.getElem_range] at h2
      subst h2
      cases hw
      rw [List.length_range] at h1
      refine ⟨h1, ?_⟩
      rintro x H3 ⟨rfl, rfl⟩
      exact ⟨g2, .refl, .int _⟩
  · unfold rngdW
    rw [List.length_map, List.length_range]
    exact Nat.le_refl _
theorem pi_rngdL {tg : Expr} {p : Pos} (hg : Gl X "range") (hm : X.mg "range" = none) (h1 : notStar a = true) (h2 : notStar b = true) (h3 : notStar c = true) (ha : PE X a (liftE X.K Wx ma)) (hb : PE X b (liftE X.K Wx mb)) (hc : PE X c (liftE X.K Wx mc)) :
    PI X tg (.Call (.Name "range" p) [a, b, c] [] pos) (liftI X.K Wx fun σ S Q E => ma σ S (fun x S1 => mb σ S1 (fun y S2 => mc σ S2 (fun z S3 => z = .int (-1) ∧ match x, y with
    | .int i, .int j => rngOk i ∧ rngOk j ∧ Q (rngdW i (i - j).toNat) (fun _ => True) S3
    | _, _ => False) E) E) E) := by
  refine pi_weak (pi_range3 hg hm (pa_cons ha (pa_cons hb (pa_cons hc pa_nil (star_cons h3)) (star_cons h2)) (star_cons h1)) (star_cons h1) (by rw [backTo_any, star_cons h2, star_cons h3]; rfl)) fun Z H R ⟨σ, S, Q, E, g, h, p, px⟩ => ?_
  refine ⟨σ, S, _, E, g, h, fun w S1 v H1 q g1 e1 r1 => ?_, px⟩
  refine ⟨σ, S1, _, E, g1, q, fun u S2 t H2 q2 g2 e2 r2 => ?_, px.next e1⟩
  refine ⟨σ, S2, _, E, g2, q2, fun z S3 t3 H3 q3 g3 e3 r3 => ?_, px.next (e1.trans e2)⟩
  obtain ⟨rfl, q3⟩ := q3
  cases w <;> first | exact q3.elim | skip
  cases u <;> first | exact q3.elim | skip
  cases r1; cases r2; cases r3
  rename_i i j
  exact ⟨i, j, -1, (i - j).toNat, rfl, RgC.neg q3.1.1 q3.1.2 q3.2.1.1 q3.2.1.2, p _ _ _ _ _ q3.2.2 g3 ((e1.trans e2).trans e3) walk_rd⟩
theorem pg_slice {o lo hi : Expr} {to tl th : TE} {p2 : Pos} (ho : PE X o to) (hl : PE X lo tl) (hh : PE X hi th) : PG X (.Subscript o (.Slice (some lo) (some hi) none p2) pos)
    (fun v σ H Q => to σ H fun x H1 => tl σ H1 fun y H2 => th σ H2 fun z H3 => ∃ l b i j xs ys, x = .ref l ∧ y = .int i ∧ z = .int j ∧ v = .ref b ∧ H3 l = some (.lst xs) ∧ H3 b = some (.lst ys) ∧ l ≠ b ∧ 0 ≤ i ∧ i ≤ j ∧ j ≤ xs.length ∧ xs.length + ys.length ≤ sizeLine ∧ Q σ (upd H3 l (.lst (xs.take i.toNat ++ ys ++ xs.drop j.toNat)))) := by
  refine ⟨fun pins s σ H v u Q I r h => ?_⟩
  have ha : assign (.Subscript o (.Slice (some lo) (some hi) none p2) pos) X.env u = (do
      let ov ← holding [u] (eval o X.env)
      let iv ← holding [u, ov] (eval (.Slice (some lo) (some hi) none p2) X.env)
      standAt pos
      holding [u, ov, iv] (setItem ov iv u)
      release [iv, u, ov] []) := rfl
  rw [ha]
  refine wpAny_bind (wpAny_holding (thn (ho.run pins s σ H _ I h) fun ov s1 ⟨x, H1, I1, r1, q1⟩ => ?_))
  refine wpAny_bind (wpAny_holding (wpAny_Slice ?_))
  rw [evalPart_some]
  refine thn (hl.run pins s1 σ H1 _ I1 q1) fun vl s2 ⟨y, H2, I2, r2, q2⟩ => ?_
  rw [evalPart_some]
  refine thn (hh.run pins s2 σ H2 _ I2 q2) fun vu s3 ⟨z, H3, I3, r3, q3⟩ => ?_
  rw [evalPart_none]
  refine wpAny_pure ?_
  obtain ⟨l, b, i, j, xs, ys, rfl, rfl, rfl, rfl, e1, e2, hne, i0, i1, i2, i3, q⟩ := q3
  cases r1
  cases r
  have I4 : Inv X pins σ H3 { s3 with heap := s3.heap.push { cls := .type "slice", data := .fields #[vl, vu, .none] } } := I3.kept (t' := s3.toks) fun b ob q => Heap.get?_push_of_some _ q
  refine wpAny_bind (wpAny_standAt (wpAny_bind (wpAny_holding (set_slice I4 e1 e2 hne (Heap.IsSliceOf.new ..) r2 r3 i0 i1 i2 i3 fun s5 I5 => ?_))))
  exact wpAny_release ⟨σ, _, I5, q⟩
theorem pg_slcL {lo hi : Expr} {p2 : Pos} (ho : PE X a (liftE X.K Wx ma)) (hl : PE X lo (liftE X.K Wx mb)) (hh : PE X hi (liftE X.K Wx mc)) : PG X (.Subscript a (.Slice (some lo) (some hi) none p2) pos) (liftG X.K [] fun w σ S Q E => ma σ S (fun x S1 => mb σ S1 (fun i S2 => mc σ S2 (fun j S3 => slsW x i j w S3 (Q σ)) E) E) E) := by
  refine pg_weak (pg_slice ho hl hh) fun v Z H Q ⟨w, σ, S, QM, g, r, h, p⟩ => ?_
  refine ⟨σ, S, _, noX, g, h, fun x S1 v1 H1 h1 g1 e1 r1 => ?_, PostX.no⟩
  refine ⟨σ, S1, _, noX, g1, h1, fun y S2 v2 H2 h2 g2 e2 r2 => ?_, PostX.no⟩
  refine ⟨σ, S2, _, noX, g2, h2, fun z S3 v3 H3 h3 g3 e3 r3 => ?_, PostX.no⟩
  unfold slsW at h3
  dsimp only at h3
  split at h3
  · rename_i ad i j pd
    cases r1; cases r2; cases r3; cases r
    obtain ⟨hne, h3⟩ := h3
    split at h3
    · rename_i xs ex
      split at h3
      · rename_i ys ey
        obtain ⟨i0, i1, i2, i3, h3⟩ := h3
        obtain ⟨vx, hx, rx⟩ := g3.st _ _ ex
        obtain ⟨vy, hy, ry⟩ := g3.st _ _ ey
        refine ⟨ad, pd, i, j, vx, vy, rfl, rfl, rfl, rfl, hx, hy, hne.symm, i0, i1, by rw [← rx.length]; exact i2, by rw [← rx.length, ← ry.length]; exact i3, ?_⟩
        have x : Ext S3 H3 (put S3 ad (.lst (xs.take i.toNat ++ ys ++ xs.drop j.toNat))) (upd H3 ad (.lst (vx.take i.toNat ++ vy ++ vx.drop j.toNat))) := Ext.write (by rw [ex]; exact fun z => by cases z) (g3.st.nfL ex)
        exact p _ _ _ _ h3 (g3.next x (g3.st.setLst ex (((rx.take _).append ry).append (rx.drop _)))) (((e1.trans e2).trans e3).trans x) ⟨rfl, fun _ _ => rfl⟩
      · exact h3.elim
    · exact h3.elim
  · exact h3.elim
end
section
variable {X : Cx} {Wx : WX} {K : PySem.W.Frag} {σ : Envr} {S S1 S' : Sto} {Z : L2.St} {H H1 H' : Hp}
def IsDic : HO → Prop
  | .dK _ => True
  | .dT _ => True
  | _ => False
theorem Stay.dic {a : Addr} {u o : HO} (hu : H a = some u) (d : IsDic u) : Stay K H (upd H a o) := by
  refine ⟨fun b xs q => ?_, fun b xs q => ?_⟩
  · have : b ≠ a := fun z => by rw [z, hu] at q; cases q; exact d
    rw [upd_ne this]; exact q
  · rcases q with ⟨o', q⟩ | q
    · have : b ≠ a := fun z => by rw [z, hu] at q; cases q; exact d
      exact .inl ⟨o', by rw [upd_ne this]; exact q⟩
    · exact .inr q
theorem Stay.fz {a : Addr} {u o : HO} {od : Obj} (hu : H a = some (.frz od u)) (d : IsDic u) : Stay K H (upd H a o) := by
  refine ⟨fun b xs q => ?_, fun b xs q => ?_⟩
  · have : b ≠ a := fun z => by rw [z, hu] at q; cases q
    rw [upd_ne this]; exact q
  · rcases q with ⟨o', q⟩ | q
    · have : b ≠ a := fun z => by rw [z, hu] at q; cases q; exact d
      exact .inl ⟨o', by rw [upd_ne this]; exact q⟩
    · exact .inr q
theorem Stay.trans {H2 : Hp} (h : Stay K H H1) (k : Stay K H1 H2) : Stay K H H2 := ⟨fun a vs e => k.1 a vs (h.1 a vs e), fun a vs e => k.2 a vs (h.2 a vs e)⟩
theorem del_same {a : Addr} : del S a a = none := if_pos rfl
theorem del_ne {a b : Addr} (h : b ≠ a) : del S a b = S b := if_neg h
theorem StOk.lock {a : Addr} {u o : HO} (g : StOk K S H) (hu : H a = some u) (d : IsDic u) : StOk K (del S a) (upd H a o) := fun b m e => by
  have n : b ≠ a := fun z => by rw [z, del_same] at e; cases e
  rw [del_ne n] at e
  exact (g b m e).stay (Stay.dic hu d) fun v q => by rw [upd_ne n]; exact q
theorem Gd.lock {a : Addr} {u o : HO} (g : Gd K σ S Z H) (hu : H a = some u) (d : IsDic u) : Gd K σ (del S a) Z (upd H a o) :=
  ⟨g.len, fun i w e => (g.sl i w e).imp fun v r => ⟨r.1, r.2.mono (Stay.dic hu d)⟩, g.st.lock hu d⟩
theorem StOk.unlock {a : Addr} {u : HO} {od : Obj} {U : MO} (g : StOk K S H) (hu : H a = some (.frz od u)) (d : IsDic u) (r : RepO K (upd H a u) U a) : StOk K (put S a U) (upd H a u) := fun b m e => by
  by_cases n : b = a
  · subst n; rw [put_same] at e; cases e; exact r
  · rw [put_ne n] at e
    exact (g b m e).stay (Stay.fz hu d) fun v q => by rw [upd_ne n]; exact q
theorem Gd.unlock {a : Addr} {u : HO} {od : Obj} {U : MO} (g : Gd K σ S Z H) (hu : H a = some (.frz od u)) (d : IsDic u) (r : RepO K (upd H a u) U a) : Gd K σ (put S a U) Z (upd H a u) :=
  ⟨g.len, fun i w e => (g.sl i w e).imp fun v r => ⟨r.1, r.2.mono (Stay.fz hu d)⟩, g.st.unlock hu d r⟩
theorem Ext.locked {a : Addr} {u o u' : HO} {U0 U : MO} (hS : S a = some U0) (hu : H a = some u) (d : IsDic u) (e : Ext (del S a) (upd H a o) S' H') : Ext S H (put S' a U) (upd H' a u') := by
  refine ⟨fun b v q n => ?_, fun b q => ?_, fun b q => ?_, fun b v n q => ?_⟩
  · have hb : b ≠ a := fun z => by rw [z, hS] at n; cases n
    rw [upd_ne hb]
    exact e.fr b v (by rw [upd_ne hb]; exact q) (by rw [del_ne hb]; exact n)
  · by_cases hb : b = a
    · left; rw [hb, hS]; exact Option.some_ne_none _
    · rw [put_ne hb] at q
      rcases e.dm b q with z | z
      · rw [del_ne hb] at z; exact .inl z
      · rw [upd_ne hb] at z; exact .inr z
  · exact upd_th (e.th b (upd_th q))
  · have hb : b ≠ a := fun z => by rw [z, hu] at q; cases q; exact d
    rw [upd_ne hb]
    exact e.fz b v n (by rw [upd_ne hb]; exact q)
theorem Ext.lockFr {a : Addr} {o : HO} (e : Ext (del S a) (upd H a o) S' H') : H' a = some o ∧ S' a = none := by
  refine ⟨e.fr a o upd_same del_same, ?_⟩
  cases q : S' a with
  | none => rfl
  | some m =>
    rcases e.dm a (by rw [q]; exact Option.some_ne_none _) with z | z
    · exact (z del_same).elim
    · rw [upd_same] at z; cases z
def KWalk (K : PySem.W.Frag) (a : Addr) (od : Obj) (u : HO) (xs : List W) (J : It) : Prop := ∀ H', H' a = some (.frz od u) → (∀ i w, xs[i]? = some w → J.go i H' ∧ ∀ x H3, J.yld i H' x H3 → H3 = H' ∧ RepW K H' w x) ∧ J.stop xs.length H'
theorem repWs_kW (ks : List Key) : RepWs K H (ks.map kW) (ks.map kV) := by
  induction ks with
  | nil => exact .nil
  | cons k r ih => exact .cons (relV_kW k) ih
theorem keys_at {κ : Type} {kvs : List (κ × W)} {vs : List (κ × V)} {f : κ → W} {i : Nat} {w : W} (h : RepF K H kvs vs) (e : (kvs.map fun kv => f kv.1)[i]? = some w) : ∃ k v, vs[i]? = some (k, v) ∧ w = f k := by
  have hk := h.keys
  rw [List.getElem?_map] at e
  cases q : kvs[i]? with
  | none => rw [q] at e; cases e
  | some p =>
    rw [q] at e
    cases e
    have h2 : (vs.map (·.1))[i]? = some p.1 := by rw [← hk, List.getElem?_map, q]; rfl
    rw [List.getElem?_map] at h2
    cases q2 : vs[i]? with
    | none => rw [q2] at h2; cases h2
    | some p2 =>
      rw [q2] at h2
      have h3 : p2.1 = p.1 := Option.some.inj h2
      exact ⟨p2.1, p2.2, rfl, by rw [h3]⟩
theorem kwalk_k {a : Addr} {od : Obj} {kvs : List (Key × W)} {vs : List (Key × V)} (h : RepF K H kvs vs) : KWalk K a od (.dK vs) (kvs.map fun kv => kW kv.1) (Itk a od vs) := fun H' e => by
  refine ⟨fun i w hw => ?_, e, ?_⟩
  · obtain ⟨k, v, h1, rfl⟩ := keys_at h hw
    refine ⟨⟨e, (List.getElem?_eq_some_iff.mp h1).1⟩, ?_⟩
    rintro x H3 ⟨rfl, k', v', h2, rfl⟩
    rw [h1] at h2
    cases h2
    exact ⟨rfl, relV_kW k⟩
  · rw [List.length_map, h.length]; exact Nat.le_refl _
theorem kwalk_t {a : Addr} {od : Obj} {kvs : List (List Key × W)} {vs : List (List Key × V)} (h : RepF K H kvs vs) : KWalk K a od (.dT vs) (kvs.map fun kv => .tup (kv.1.map kW)) (Itkt a od vs) := fun H' e => by
  refine ⟨fun i w hw => ?_, e, ?_⟩
  · obtain ⟨k, v, h1, rfl⟩ := keys_at (f := fun k => W.tup (k.map kW)) h hw
    refine ⟨⟨e, (List.getElem?_eq_some_iff.mp h1).1⟩, ?_⟩
    rintro x H3 ⟨rfl, k', v', q, h2, rfl, hq⟩
    rw [h1] at h2
    cases h2
    exact ⟨rfl, .tup hq (repWs_kW k)⟩
  · rw [List.length_map, h.length]; exact Nat.le_refl _
end
section
variable {X : Cx} {Wx : WX}
variable {tg : Expr} {pos : Pos} {body : List Stmt} {sl : List Nat}
variable {mg : W → Envr → Sto → (Envr → Sto → Prop) → XQ → Prop} {ms : MEnds → Envr → Sto → Prop}
theorem ford_one {σ : Envr} {S : Sto} {Z : L2.St} {H : Hp} {a : Addr} {u : HO} {od : Obj} {U : MO} {xs : List W} {J : It} {E : MEnds} {D : Ends} {I : Nat → Envr → Sto → Prop} (g : Gd X.K σ S Z H) (hS : S a = some U) (hu : H a = some u) (d : IsDic u) (hR : ∀ H'', Stay X.K H H'' → H'' a = some u → RepO X.K H'' U a) (hw : KWalk X.K a od u xs J)
    {H1 : Hp} (g1 : Gd X.K σ (del S a) Z H1) (e1 : Ext (del S a) (upd H a (.frz od u)) (del S a) H1) (h0 : ∃ S2, Sub S2 (del S a) ∧ I 0 σ S2)
    (hstep : ∀ k x σ' S', xs[k]? = some x → I k σ' S' → mg x σ' S' (fun σ2 S2 => ms { nx := I (k + 1), ct := I (k + 1), bk := fun σ3 S3 => S3 a = none → E.nx σ3 (put S3 a U), rt := fun w S3 => S3 a = none → E.rt w (put S3 a U), ex := fun _ _ _ => False } σ2 S2) noX)
    (hend : ∀ σ' S', I xs.length σ' S' → S' a = none → E.nx σ' (put S' a U))
    (pnx : ∀ σ' S' Z' H', E.nx σ' S' → Gd X.K σ' S' Z' H' → Ext S H S' H' → D.nx Z' H')
    (prt : ∀ w S' v H', E.rt w S' → StOk X.K S' H' → Ext S H S' H' → RepW X.K H' w v → D.rt v H') :
    ∃ W : Nat → Nat → L2.St → Hp → Prop, (∃ m, W 0 m Z H1) ∧ ∀ i m Z' H', W i m Z' H' →
      (J.stop i H' ∧ (H' a = some (.frz od u) ∧ D.nx Z' (upd H' a u))) ∨ (J.go i H' ∧ ∃ N : L2.St → Hp → Prop, (∀ Z'' H'', N Z'' H'' → ∃ m', m' < m ∧ W (i + 1) m' Z'' H'') ∧ ∀ x H3, J.yld i H' x H3 → liftG X.K sl mg x Z' H3 fun Z2 H2 => liftS X.K Wx ms ⟨N, fun v H5 => H5 a = some (.frz od u) ∧ D.rt v (upd H5 a u), fun Z5 H5 => H5 a = some (.frz od u) ∧ D.nx Z5 (upd H5 a u), N⟩ Z2 H2) := by
  have gl : Gd X.K σ (del S a) Z (upd H a (.frz od u)) := g.lock hu d
  have un : ∀ {S' : Sto} {H' : Hp}, Ext (del S a) (upd H a (.frz od u)) S' H' → H' a = some (.frz od u) ∧ S' a = none ∧ Ext S H (put S' a U) (upd H' a u) ∧ RepO X.K (upd H' a u) U a := fun {S' H'} e => by
    obtain ⟨h1, h2⟩ := e.lockFr
    exact ⟨h1, h2, e.locked hS hu d, hR _ (((Stay.dic hu d).trans (e.stay gl.st)).trans (Stay.fz h1 d)) upd_same⟩
  obtain ⟨S2, sub, h0⟩ := h0
  refine ⟨fun i m Z' H' => m = xs.length - i ∧ i ≤ xs.length ∧ ∃ σ' S', Gd X.K σ' S' Z' H' ∧ Ext (del S a) (upd H a (.frz od u)) S' H' ∧ I i σ' S', ⟨xs.length, by simp, Nat.zero_le _, σ, S2, ⟨g1.len, g1.sl, g1.st.sub sub⟩, e1.trans (Ext.sub sub), h0⟩, ?_⟩
  rintro i m Z' H' ⟨rfl, hi', σ', S', g', x1, hI⟩
  obtain ⟨hfz, hn, hx2, hr⟩ := un x1
  by_cases hlt : i < xs.length
  · have hx : xs[i]? = some xs[i] := by simp [hlt]
    obtain ⟨hgo, hy⟩ := (hw H' hfz).1 i _ hx
    refine .inr ⟨hgo, fun Z'' H'' => ∃ σ'' S'', Gd X.K σ'' S'' Z'' H'' ∧ Ext (del S a) (upd H a (.frz od u)) S'' H'' ∧ I (i + 1) σ'' S'', fun Z'' H'' n => ⟨xs.length - (i + 1), by omega, rfl, hlt, n⟩, fun v H3 hyl => ?_⟩
    obtain ⟨rfl, r3⟩ := hy v H3 hyl
    refine ⟨_, σ', S', _, g', r3, hstep i _ σ' S' hx hI, fun σ4 S4 Z4 H4 hb g4 e4 _ => ?_⟩
    have e04 := x1.trans e4
    refine ⟨σ4, S4, _, g4, hb, fun σ5 S5 Z5 H5 q g5 e5 => ⟨σ5, S5, g5, e04.trans e5, q⟩, fun w S5 v5 H5 q g5 e5 r5 => ?_, fun σ5 S5 Z5 H5 q g5 e5 => ?_, fun σ5 S5 Z5 H5 q g5 e5 => ⟨σ5, S5, g5, e04.trans e5, q⟩, fun _ _ _ _ _ q => q.elim⟩
    · obtain ⟨f1, f2, f3, f4⟩ := un (e04.trans e5)
      exact ⟨f1, prt w _ v5 _ (q f2) (g5.unlock f1 d f4) f3 (r5.mono (Stay.fz f1 d))⟩
    · obtain ⟨f1, f2, f3, f4⟩ := un (e04.trans e5)
      exact ⟨f1, pnx σ5 _ Z5 _ (q f2) (g5.unlock f1 d f4) f3⟩
  · have hi2 : i = xs.length := by omega
    subst hi2
    exact .inl ⟨(hw H' hfz).2, hfz, pnx _ _ _ _ (hend σ' S' hI hn) (g'.unlock hfz d hr) hx2⟩
theorem ps_fordL {y : Str} {py : Pos} {i : Nat} (hp : PassesOwn (model X.prog X.w) X.A X.env X.xe) (hc : X.calm = true) (hy : PE X (.Name y py) (liftE X.K Wx fun σ S Q _ => match getv σ i with
    | some w => Q w S
    | none => False)) (hg : PG X tg (liftG X.K sl mg)) (hb : PSs X body (liftS X.K Wx ms)) :
    PS X (.For tg (.Name y py) body [] pos) (liftS X.K Wx fun D σ S => match getv σ i with
    | some (.ref a) => (match S a with
      | some U => (match keysOf U with
        | some xs => ∃ I : Nat → Envr → Sto → Prop, (∃ S2, Sub S2 (del S a) ∧ I 0 σ S2) ∧
          (∀ k x σ' S', xs[k]? = some x → I k σ' S' → mg x σ' S' (fun σ2 S2 => ms { nx := I (k + 1), ct := I (k + 1), bk := fun σ3 S3 => S3 a = none → D.nx σ3 (put S3 a U), rt := fun w S3 => S3 a = none → D.rt w (put S3 a U), ex := fun _ _ _ => False } σ2 S2) noX) ∧
          ∀ σ' S', I xs.length σ' S' → S' a = none → D.nx σ' (put S' a U)
        | none => False)
      | none => False)
    | _ => False) := by
  refine ps_weak (ps_lock (ps_for hp hc (pi_keys hy) hg hb (notSet_of rfl))) fun D Z H ⟨σ, S, E, g, hm, pnx, prt, pbk, pct, pex⟩ => ?_
  dsimp only at hm
  split at hm
  · rename_i a ha
    split at hm
    · rename_i U hU
      split at hm
      · rename_i xs hxs
        obtain ⟨I, h0, hstep, hend⟩ := hm
        have rU := g.st a U hU
        cases U with
        | lst _ => cases hxs
        | ins _ _ => cases hxs
        | dn _ => cases hxs
        | dk fz kvs =>
          cases fz with
          | true => cases hxs
          | false =>
            cases hxs
            obtain ⟨vs, hv, rf⟩ := rU
            refine ⟨a, .dK vs, hv, trivial, fun od => ?_⟩
            refine ⟨σ, del S a, fun w S' => w = .ref a ∧ S' = del S a, noX, g.lock hv trivial, by dsimp only; rw [ha]; exact ⟨rfl, rfl⟩, fun w S' v H' q g' e' r' => ?_, PostX.no⟩
            obtain ⟨rfl, rfl⟩ := q
            cases r'
            refine ⟨a, od, rfl, .inl ⟨vs, e'.lockFr.1, ?_⟩⟩
            exact ford_one (E := E) (D := D) g hU hv trivial (fun H'' s q => ⟨vs, q, rf.mono s⟩) (kwalk_k rf) g' e' h0 hstep hend pnx prt
        | dt fz kvs =>
          cases fz with
          | true => cases hxs
          | false =>
            cases hxs
            obtain ⟨vs, hv, rf⟩ := rU
            refine ⟨a, .dT vs, hv, trivial, fun od => ?_⟩
            refine ⟨σ, del S a, fun w S' => w = .ref a ∧ S' = del S a, noX, g.lock hv trivial, by dsimp only; rw [ha]; exact ⟨rfl, rfl⟩, fun w S' v H' q g' e' r' => ?_, PostX.no⟩
            obtain ⟨rfl, rfl⟩ := q
            cases r'
            refine ⟨a, od, rfl, .inr ⟨vs, e'.lockFr.1, ?_⟩⟩
            exact ford_one (E := E) (D := D) g hU hv trivial (fun H'' s q => ⟨vs, q, rf.mono s⟩) (kwalk_t rf) g' e' h0 hstep hend pnx prt
      · exact hm.elim
    · exact hm.elim
  · exact hm.elim
end
section
variable {X : Cx} {Wx : WX} {K : PySem.W.Frag} {σ : Envr} {S S1 S' : Sto} {Z : L2.St} {H H1 H' : Hp}
variable {a : Expr} {pos : Pos} {ma : MTE} {mes : Envr → Sto → (List W → Sto → Prop) → XQ → Prop}
def PsOk (X : Cx) (Wx : WX) (ks : List Key) (trs : List (TE × TE)) (m : Envr → Sto → (List W → Sto → Prop) → XQ → Prop) : Prop := ∀ Z H (QP : List (V × V) → Hp → Prop) σ S Q E, Gd X.K σ S Z H → m σ S Q E →
  (∀ ws S1 vs H1, Q ws S1 → Gd X.K σ S1 Z H1 → Ext S H S1 H1 → RepWs X.K H1 ws vs → QP ((ks.zip vs).map fun kv => (kV kv.1, kv.2)) H1) → PostX X.K Wx σ S Z H E → tPairs trs Z H QP
theorem psOk_nil : PsOk X Wx [] [] (fun _ S Q _ => Q [] S) := fun Z H QP σ S Q E g h p px => p _ _ _ _ h g .refl .nil
theorem psOk_cons {k : Key} {ks : List Key} {trs : List (TE × TE)} (hr : PsOk X Wx ks trs mes) :
    PsOk X Wx (k :: ks) ((tC (kV k), liftE X.K Wx ma) :: trs) (fun σ S Q E => ma σ S (fun w S1 => mes σ S1 (fun ws S2 => Q (w :: ws) S2) E) E) := fun Z H QP σ S Q E g h p px => by
  show liftE X.K Wx ma Z H _
  refine ⟨σ, S, _, E, g, h, fun w S1 v H1 h1 g1 e1 r1 => ?_, px⟩
  exact hr Z H1 _ σ S1 _ E g1 h1 (fun ws S2 vs H2 q g2 e2 r2 => p _ _ (v :: vs) _ q g2 (e1.trans e2) (.cons (e2.rep g1.st r1) r2)) (px.next e1)
theorem RepF.mk {ks : List Key} : ∀ {ws : List W} {vs : List V} {acc : List (Key × W)} {acc' : List (Key × V)}, RepWs K H ws vs → RepF K H acc acc' → RepF K H ((ks.zip ws).foldl (fun acc kv => putD acc kv.1 kv.2) acc) ((ks.zip vs).foldl (fun acc kv => putK acc kv.1 kv.2) acc') := by
  induction ks with
  | nil => intro ws vs acc acc' _ h; exact h
  | cons k r ih =>
    intro ws vs acc acc' hr h
    cases hr with
    | nil => exact h
    | cons r1 rr => exact ih rr (h.put r1)
theorem snd_ddsp {ks : List Key} {keys : List (Option Expr)} {vals : List Expr} {trs : List (TE × TE)} (h : PPs X pos keys vals trs) (ho : PsOk X Wx ks trs mes) (hall : keys.all (·.isSome) = true) (hl : keys.length = vals.length) (h0 : keys ≠ []) (h15 : keys.length ≤ 15) (hks : ks.length = keys.length) :
    Snd X Wx (.Dict keys vals pos) (fun σ S Q E => mes σ S (fun ws S1 => ks.length = ws.length ∧ ∀ p, S1 p = none → Q (.ref p) (put S1 p (.dk false (mkD ks ws)))) E) := by
  refine Snd.plain (pe_weak (pe_disp h hall hl h0 h15) fun Z H QV ⟨σ, S, Q, E, g, hm, p, px⟩ => ?_) (fun _ => rfl) (fun ⟨_, _, _, z⟩ => by cases z)
  intro q hq
  have xf : Ext S H S (upd H q (.dK [])) := Ext.fresh hq
  have g0 : Gd X.K σ S Z (upd H q (.dK [])) := g.next xf (g.st.fresh hq)
  have hSq : S q = none := g.st.free hq
  refine ho Z _ _ σ S _ E g0 hm (fun ws S1 vs H1 hh g1 e1 r1 => ?_) (px.next xf)
  obtain ⟨hlen, hh⟩ := hh
  obtain ⟨k1, k2⟩ := e1.keepNone hSq upd_same
  refine ⟨k2, ks.zip vs, rfl, ?_, ?_⟩
  · rw [List.length_zip]; omega
  · have x : Ext S H (put S1 q (.dk false (mkD ks ws))) (upd H1 q (.dK (mergeK [] (ks.zip vs)))) := by
      refine ⟨fun b v e n => ?_, fun b n => ?_, fun b n => ?_, fun b v n e => ?_⟩
      · have hb : b ≠ q := fun z => by rw [z, hq] at e; cases e
        rw [upd_ne hb]
        exact e1.fr b v (by rw [upd_ne hb]; exact e) n
      · by_cases hb : b = q
        · right; rw [hb]; exact hq
        · rw [put_ne hb] at n
          rcases e1.dm b n with z | z
          · exact .inl z
          · rw [upd_ne hb] at z; exact .inr z
      · exact upd_th (e1.th b (upd_th n))
      · have hb : b ≠ q := fun z => by rw [z, hq] at e; cases e
        rw [upd_ne hb]
        exact e1.fz b v n (by rw [upd_ne hb]; exact e)
    have sd : Stay X.K H1 (upd H1 q (.dK (mergeK [] (ks.zip vs)))) := Stay.dic k2 trivial
    have g2 : Gd X.K σ (put S1 q (.dk false (mkD ks ws))) Z (upd H1 q (.dK (mergeK [] (ks.zip vs)))) := by
      refine ⟨g1.len, fun i w e => (g1.sl i w e).imp fun v r => ⟨r.1, r.2.mono sd⟩, fun b m e => ?_⟩
      by_cases hb : b = q
      · subst hb
        rw [put_same] at e
        cases e
        exact ⟨_, upd_same, RepF.mk (r1.mono sd) trivial⟩
      · rw [put_ne hb] at e
        exact (g1.st b m e).stay sd fun v z => by rw [upd_ne hb]; exact z
    exact p _ _ _ _ (hh q k1) g2 x (.ref q)
theorem keysB_len : ∀ {ks : List Key} {keys : List (Option Expr)}, keysB ks keys = true → ks.length = keys.length ∧ keys.all (·.isSome) = true
  | [], [], _ => ⟨rfl, rfl⟩
  | .inl i :: r, some (.Constant (.int j) _ _) :: t, h => by
    simp only [keysB, Bool.and_eq_true] at h
    obtain ⟨a, b⟩ := keysB_len h.2
    exact ⟨by rw [List.length_cons, List.length_cons, a], by rw [List.all_cons, b]; rfl⟩
  | .inr x :: r, some (.Constant (.str y) _ _) :: t, h => by
    simp only [keysB, Bool.and_eq_true] at h
    obtain ⟨a, b⟩ := keysB_len h.2
    exact ⟨by rw [List.length_cons, List.length_cons, a], by rw [List.all_cons, b]; rfl⟩
end
section
variable {X : Cx}
def rSortD (K : PySem.W.Frag) : List V → Hp → VK → Prop := fun vs H Q => ∃ (a : Addr) (ps : List (V × PyData)), vs = [V.ref a] ∧ SqL K H a (ps.map (·.1)) ∧ (∀ p ∈ ps, Dp K H p.1 p.2) ∧ PySem.W.AllAlike (ps.map (·.2)) ∧ PySem.W.Sortable (ps.map (·.2)) ∧ (∀ p ∈ ps, p.2.depth ≤ 40) ∧
  ∀ p : Addr, H p = none → Q (.ref p) (upd H p (.lst ((ps.mergeSort (PySem.W.dataLe false (·.2))).map (·.1))))
theorem each_vals {β : Type} {f : β → V} : ∀ {ps : List β} {us : List Value}, Vals (ps.map f) us → PySem.W.EachIs (fun u p => RelV (f p) u) us ps
  | [], _, .nil => .nil
  | _ :: _, _, .cons r t => .cons r (each_vals t)
theorem vals_each {β : Type} {f : β → V} : ∀ {ps : List β} {us : List Value}, PySem.W.EachIs (fun u p => RelV (f p) u) us ps → Vals (ps.map f) us
  | _, _, .nil => .nil
  | _, _, .cons r t => .cons r (vals_each t)
theorem each_mem2 {β : Type} {R R' : Value → β → Prop} : ∀ {us : List Value} {ps : List β}, PySem.W.EachIs R us ps → (∀ u p, p ∈ ps → R u p → R' u p) → PySem.W.EachIs R' us ps
  | _, _, .nil, _ => .nil
  | _, _, .cons r t, h => .cons (h _ _ List.mem_cons_self r) (each_mem2 t fun u p m => h u p (List.mem_cons_of_mem _ m))
theorem cr_sortD (hu : X.A.units + 64 < cLine) : CallR X (.builtin "sorted") (rSortD X.K) := by
  intro pins s σ H vs us Q I r h
  obtain ⟨a, ps, rfl, hs, hd, al, so, dp, q⟩ := h
  obtain ⟨its, rv, hl, hz⟩ := I.list hs
  rw [Vals.ref1 r]
  have ev := each_vals rv
  have len : its.length = ps.length := by have := rv.length; rw [List.length_map] at this; exact this.symm
  refine PySem.W.sorted_data (vs := its) (bs := ps) (enc := (·.2)) (R := fun u p => RelV p.1 u) hl.isList ev (each_mem2 ev fun u p m r => Dp.reads I _ _ _ (hd p m) r) al so (by rw [List.length_map] at hz; exact hz) (fun p m => by have := dp p m; omega) fun out ho eo => ?_
  have hn := sortedAll_at s.heap its out.toArray
  obtain ⟨n, hn⟩ := hn
  have kp : ∀ b o, s.heap.get? b = some o → (sortedAll s.heap its out.toArray).get? b = some o := fun b o e => sortedAll_old e
  have hd2 : s.heap.objs.size ≤ s.heap.objs.size + 1 := Nat.le_succ _
  have hv := vals_each (f := fun p : V × PyData => p.1) eo
  refine ⟨.ref (s.heap.objs.size + 1), upd H (s.heap.objs.size + 1) (.lst ((ps.mergeSort (PySem.W.dataLe false (·.2))).map (·.1))), I.laid (t' := s.toks) kp hd2 ⟨?_, out, n, hv, hn⟩, rfl, q _ (I.hok.fresh hd2)⟩
  rw [List.length_map, List.length_mergeSort]; rw [List.length_map] at hz; exact hz
end
theorem resL_depth {f : W → Option PyData} {n : Nat} (hf : ∀ w d, f w = some d → d.depth ≤ n) : ∀ {ws : List W} {ds : List PyData}, resL f ws = some ds → PyData.depthAll ds ≤ n
  | [], _, h => by cases h; unfold PyData.depthAll; exact Nat.zero_le _
  | w :: ws, _, h => by
    unfold resL at h
    split at h
    · rename_i d ds e1 e2
      cases h
      unfold PyData.depthAll
      exact Nat.max_le.mpr ⟨hf _ _ e1, resL_depth hf e2⟩
    · cases h
theorem resW_depth {S : Sto} : ∀ (n : Nat) (w : W) (d : PyData), resW S n w = some d → d.depth ≤ n
  | 0, _, _, h => by cases h
  | n + 1, w, d, h => by
    unfold resW at h
    cases w with
    | non => cases h; unfold PyData.depth; exact Nat.zero_le _
    | bl b => cases h; unfold PyData.depth; exact Nat.zero_le _
    | int i => cases h; unfold PyData.depth; exact Nat.zero_le _
    | str x => cases h; unfold PyData.depth; exact Nat.zero_le _
    | tup ws =>
      dsimp only at h
      rw [Option.map_eq_some_iff] at h
      obtain ⟨ds, e, rfl⟩ := h
      unfold PyData.depth
      exact Nat.succ_le_succ (resL_depth (resW_depth n) e)
    | rol ws =>
      dsimp only at h
      rw [Option.map_eq_some_iff] at h
      obtain ⟨ds, e, rfl⟩ := h
      unfold PyData.depth
      exact Nat.succ_le_succ (resL_depth (resW_depth n) e)
    | ref a =>
      dsimp only at h
      split at h
      · rename_i ws es
        rw [Option.map_eq_some_iff] at h
        obtain ⟨ds, e, rfl⟩ := h
        unfold PyData.depth
        exact Nat.succ_le_succ (resL_depth (resW_depth n) e)
      · cases h
    | ty => cases h
theorem rep_zip {K : PySem.W.Frag} {H : Hp} {f : W → Option PyData} (hf : ∀ w v d, RepW K H w v → f w = some d → Dp K H v d) {n : Nat} (hn : ∀ w d, f w = some d → d.depth ≤ n) : ∀ {ws : List W} {vs : List V} {ds : List PyData}, RepWs K H ws vs → resL f ws = some ds →
    ∃ ps : List ((W × PyData) × V), ws.zip ds = ps.map (·.1) ∧ vs = ps.map (·.2) ∧ ds = ps.map (·.1.2) ∧ ∀ p ∈ ps, RepW K H p.1.1 p.2 ∧ Dp K H p.2 p.1.2 ∧ p.1.2.depth ≤ n
  | _, _, _, .nil, h => by cases h; exact ⟨[], rfl, rfl, rfl, fun p h => by cases h⟩
  | _, _, _, .cons (w := w) (v := v) r rs, h => by
    unfold resL at h
    split at h
    · rename_i d ds e1 e2
      cases h
      obtain ⟨ps, h1, h2, h3, h4⟩ := rep_zip hf hn rs e2
      refine ⟨((w, d), v) :: ps, by rw [List.zip_cons_cons, h1]; rfl, by rw [h2]; rfl, by rw [h3]; rfl, fun p m => ?_⟩
      rcases List.mem_cons.mp m with rfl | m
      · exact ⟨r, hf _ _ _ r e1, hn _ _ e1⟩
      · exact h4 p m
    · cases h
theorem reps_of {K : PySem.W.Frag} {H : Hp} {β : Type} {f : β → W} {g : β → V} : ∀ {ps : List β}, (∀ p ∈ ps, RepW K H (f p) (g p)) → RepWs K H (ps.map f) (ps.map g)
  | [], _ => .nil
  | p :: ps, h => .cons (h p List.mem_cons_self) (reps_of fun q m => h q (List.mem_cons_of_mem _ m))
theorem sort_map {α β : Type} {le : β → β → Bool} {f : α → β} (l : List α) : (l.mergeSort fun a b => le (f a) (f b)).map f = (l.map f).mergeSort le := List.map_mergeSort fun _ _ _ _ => rfl
section
variable {X : Cx} {Wx : WX} {K : PySem.W.Frag} {a : Expr} {pos : Pos} {ml : Envr → Sto → LQ → XQ → Prop} {mt : Envr → Sto → (List W → Sto → Prop) → XQ → Prop} {ma : MTE} {S S1 S' : Sto} {H H1 H' : Hp} {σ : Envr} {Z : L2.St} {tg e : Expr}
theorem sndT_srtD {p : Pos} (hc : X.calm = true) (hu : X.A.units + 64 < cLine) (hg : Gl X "sorted") (hm : X.mg "sorted" = none) (h1 : notStar a = true) (ha : PE X a (liftL X.K Wx ml)) :
    SndT X Wx (.Call (.Name "sorted" p) [a] [] pos) (fun σ S Q E => ml σ S (fun xs k _ S1 => k ≠ .tu ∧ srtDW xs S1 fun ys => Q ys S1) E) := by
  refine pe_bltT (op := fun xs k _ S Q => k ≠ .tu ∧ srtDW xs S fun ys => Q ys S) (callOk_b (cr_sortD hu) hg hm boot_sorted (by decide) (by decide)) h1 ha fun ws k st v σ S Z H Q QV g r h p => ?_
  obtain ⟨q, vs, rfl, r1, r2⟩ := r.now g.st
  obtain ⟨hk, ds, hr, al, so, h⟩ := h
  obtain ⟨ps, h1, h2, h3, h4⟩ := rep_zip (resW_dp g.st 8) (resW_depth 8) r1 hr
  refine ⟨q, ps.map fun p => (p.2, p.1.2), rfl, ?_, fun x hx => ?_, ?_, ?_, fun x hx => ?_, fun l hl => ?_⟩
  · rw [List.map_map, show ((fun x : V × PyData => x.1) ∘ fun p : (W × PyData) × V => (p.2, p.1.2)) = (·.2) from rfl, ← h2]; exact r2.sql hk
  · obtain ⟨y, hy, rfl⟩ := List.mem_map.mp hx; exact (h4 y hy).2.1
  · rw [List.map_map, show ((fun x : V × PyData => x.2) ∘ fun p : (W × PyData) × V => (p.2, p.1.2)) = (·.1.2) from rfl, ← h3]; exact al
  · rw [List.map_map, show ((fun x : V × PyData => x.2) ∘ fun p : (W × PyData) × V => (p.2, p.1.2)) = (·.1.2) from rfl, ← h3]; exact so
  · obtain ⟨y, hy, rfl⟩ := List.mem_map.mp hx
    have := (h4 y hy).2.2
    show y.1.2.depth ≤ 40
    omega
  · rw [h1] at h
    have e1 := sort_map (le := PySem.W.dataLe false (fun p : W × PyData => p.2)) (f := fun p : (W × PyData) × V => p.1) ps
    have e2 := sort_map (le := PySem.W.dataLe false (fun p : V × PyData => p.2)) (f := fun p : (W × PyData) × V => (p.2, p.1.2)) ps
    rw [← e1, List.map_map] at h
    rw [← e2, List.map_map]
    refine post_lst p g hl ?_ h
    exact reps_of fun x hx => (h4 x (List.mem_mergeSort.mp hx)).1
theorem Gd.lockK {a : Addr} {kvs : List (Key × W)} {vs : List (Key × V)} {od : Obj} (g : Gd K σ S Z H) (hu : H a = some (.dK vs)) (r : RepF K H kvs vs) : Gd K σ (put S a (.dk true kvs)) Z (upd H a (.frz od (.dK vs))) :=
  ⟨g.len, fun i w e => (g.sl i w e).imp fun v r => ⟨r.1, r.2.mono (Stay.dic hu trivial)⟩, fun b m e => by
    by_cases n : b = a
    · subst n; rw [put_same] at e; cases e; exact ⟨vs, ⟨od, upd_same⟩, r.mono (Stay.dic hu trivial)⟩
    · rw [put_ne n] at e
      exact (g.st b m e).stay (Stay.dic hu trivial) fun v q => by rw [upd_ne n]; exact q⟩
theorem Ext.lockedK {a : Addr} {u o u' : HO} {U0 U1 U : MO} (hS : S a = some U0) (hu : H a = some u) (d : IsDic u) (e : Ext (put S a U1) (upd H a o) S' H') : Ext S H (put S' a U) (upd H' a u') := by
  refine ⟨fun b v q n => ?_, fun b q => ?_, fun b q => ?_, fun b v n q => ?_⟩
  · have hb : b ≠ a := fun z => by rw [z, hS] at n; cases n
    rw [upd_ne hb]
    exact e.fr b v (by rw [upd_ne hb]; exact q) (by rw [put_ne hb]; exact n)
  · by_cases hb : b = a
    · left; rw [hb, hS]; exact Option.some_ne_none _
    · rw [put_ne hb] at q
      rcases e.dm b q with z | z
      · rw [put_ne hb] at z; exact .inl z
      · rw [upd_ne hb] at z; exact .inr z
  · exact upd_th (e.th b (upd_th q))
  · have hb : b ≠ a := fun z => by rw [z, hu] at q; cases q; exact d
    rw [upd_ne hb]
    exact e.fz b v n (by rw [upd_ne hb]; exact q)
theorem sndT_lck (h : SndT X Wx e mt) : SndT X Wx e (fun σ S Q _ => ∃ a kvs, S a = some (.dk false kvs) ∧ mt σ (put S a (.dk true kvs)) (fun ws S1 => Q ws (put S1 a (.dk false kvs))) noX) := by
  refine ⟨pe_weak (pe_lock h.v) fun Z H QV ⟨σ, S, Q, E, g, ⟨a, kvs, hS, hm⟩, p, px⟩ => ?_, h.p⟩
  obtain ⟨vs, hv, rf⟩ := g.st a _ hS
  have hv : H a = some (.dK vs) := hv
  refine ⟨a, .dK vs, hv, trivial, fun od => ?_⟩
  have gl := g.lockK (od := od) hv rf
  refine ⟨σ, put S a (.dk true kvs), _, noX, gl, hm, fun ws S1 q us H1 hq g1 e1 h1 h2 h3 h4 => ?_, PostX.no⟩
  have fz := e1.fz a od (.dK vs) upd_same
  have hqa : q ≠ a := fun z => by rw [z, upd_same] at h4; cases h4
  refine ⟨fz, p ws _ q us _ hq (g1.unlock fz trivial ⟨vs, upd_same, rf.mono (((Stay.dic hv trivial).trans (e1.stay gl.st)).trans (Stay.fz fz trivial))⟩) (e1.lockedK hS hv trivial) (by rw [upd_ne hqa]; exact h1) (h2.mono (Stay.fz fz trivial)) (by rw [put_ne hqa]; exact h3) (by rw [upd_ne hqa] at h4; exact h4)⟩
theorem pi_keysL (ha : PE X e (liftE X.K Wx ma)) : PI X tg e (liftI X.K Wx fun σ S Q E => ma σ S (fun x S1 => match x with
    | .ref a => (match S1 a with
      | some (.dk true kvs) => Q (kvs.map fun kv => kW kv.1) (fun _ => True) S1
      | _ => False)
    | _ => False) E) := by
  refine pi_weak (pi_keys ha) fun Z H R ⟨σ, S, Q, E, g, h, p, px⟩ => ?_
  refine ⟨σ, S, _, E, g, h, fun w S1 v H1 h1 g1 e1 r1 => ?_, px⟩
  cases w <;> first | exact h1.elim | skip
  rename_i a
  cases r1
  dsimp only at h1
  split at h1
  · rename_i kvs hS
    obtain ⟨vs, ⟨od, hz⟩, rf⟩ := g1.st a _ hS
    refine ⟨a, od, rfl, .inl ⟨vs, hz, p _ _ _ _ _ h1 g1 e1 fun S2 H2 x2 g2 _ => ?_⟩⟩
    have hz2 := x2.fz a od (.dK vs) hz
    obtain ⟨k1, k2⟩ := kwalk_k (od := od) (a := a) (rf.mono (x2.stay g1.st)) H2 hz2
    refine ⟨fun i w hw => ⟨(k1 i w hw).1, fun x H3 hy => ?_⟩, k2⟩
    obtain ⟨rfl, r3⟩ := (k1 i w hw).2 x H3 hy
    exact ⟨g2, .refl, r3⟩
  · exact h1.elim
end
section
variable {X : Cx} {Wx : WX} {K : PySem.W.Frag} {a b c : Expr} {pos : Pos} {ma mb mc : MTE}
def rGetL : V → V → Hp → VK → Prop := fun x y H Q => ∃ p xs k v, x = V.ref p ∧ y = V.int k ∧ H p = some (.lst xs) ∧ 0 ≤ k ∧ k < 2 ^ 63 ∧ xs[k.toNat]? = some v ∧ Q v H
theorem get_list : PGet X rGetL := by
  intro pins s σ H o i ov iv Q I ro ri h
  obtain ⟨p, xs, k, v, rfl, rfl, hp, h0, h1, hv, q⟩ := h
  obtain rfl : ov = Value.ref p := ro
  obtain ⟨t, rfl⟩ := ri
  have ho := I.hok p _ hp
  unfold ObjOk at ho
  obtain ⟨_, its, n, hvs, hg⟩ := ho
  obtain ⟨u, hu, ru⟩ := hvs.get hv
  exact wpAny_getItem_list (items := its.toArray) ⟨_, hg, rfl, n, rfl⟩ h0 h1 (by simpa using hu) ⟨v, H, I, ru, q⟩
theorem ps_augxL {op : BOp} {o : Operator} {tp : Pos} (hu : X.A.units + 64 < cLine) (hop : iopB op o = true) (hs : notSlice b = true) (ha : PE X a (liftE X.K Wx ma)) (hb : PE X b (liftE X.K Wx mb)) (hc : PE X c (liftE X.K Wx mc)) :
    PS X (.AugAssign (.Subscript a b tp) o c pos) (liftS X.K Wx fun D σ S => ma σ S (fun x S1 => mb σ S1 (fun y S2 => getxW x y S2 fun v => mc σ S2 (fun z S3 => augW op v z fun u => setW x y u S3 (D.nx σ)) (D.ex σ)) (D.ex σ)) (D.ex σ)) := by
  refine ps_weak (ps_augS ha hb get_list hc (iopR_ok hop) (PSet.or set_list (PSet.or (set_dict (by omega)) (set_nd (by omega)))) (by intro ov iv new; cases b <;> first | rfl | (simp [notSlice] at hs))) fun D Z H ⟨σ, S, E, g, h, pnx, prt, pbk, pct, pex⟩ => ?_
  refine ⟨σ, S, _, E.ex σ, g, h, fun x S1 v1 H1 h1 g1 e1 r1 => ?_, fun C S' H' q g' e' => pex _ _ _ _ _ q g' e'⟩
  refine ⟨σ, S1, _, E.ex σ, g1, h1, fun y S2 v2 H2 h2 g2 e2 r2 => ?_, fun C S' H' q g' e' => pex _ _ _ _ _ q g' (e1.trans e')⟩
  unfold getxW at h2
  dsimp only at h2
  split at h2
  · rename_i ad k
    cases r1; cases r2
    split at h2
    · rename_i ws ew
      obtain ⟨k0, k1, h2⟩ := h2
      split at h2
      · rename_i w hw
        obtain ⟨vs, hv, rv⟩ := g2.st _ _ ew
        obtain ⟨vv, hvv, rw1⟩ := rv.get hw
        refine ⟨ad, vs, k, vv, rfl, rfl, hv, k0, k1, hvv, ?_⟩
        refine ⟨σ, S2, _, E.ex σ, g2, h2, fun z S3 v3 H3 h3 g3 e3 r3 => ?_, fun C S' H' q g' e' => pex _ _ _ _ _ q g' ((e1.trans e2).trans e')⟩
        have rv3 := e3.rep g2.st rw1
        have e03 := (e1.trans e2).trans e3
        have fin : ∀ {u : W} {vu : V}, RepW X.K H3 u vu → setW (.ref ad) (.int k) u S3 (E.nx σ) → L2.rSetL (.ref ad) (.int k) vu H3 (fun H6 => D.nx Z H6) ∨ rSetD (.ref ad) (.int k) vu H3 (fun H6 => D.nx Z H6) ∨ rSetN (.ref ad) (.int k) vu H3 (fun H6 => D.nx Z H6) := fun ru hq => setW_of g3.st (.ref ad) (.int k) ru hq fun S' H' q s x => pnx _ _ _ _ q (g3.next x s) (e03.trans x)
        cases op <;> first | exact h3.elim | skip
        · cases w <;> cases z <;> first | exact h3.elim | skip
          · cases rv3; cases r3
            exact .inl ⟨_, _, rfl, rfl, fin (.int _) h3⟩
          · cases rv3; cases r3
            exact .inr ⟨_, _, rfl, rfl, h3.1, fin (.str _) h3.2⟩
        · cases w <;> cases z <;> first | exact h3.elim | skip
          cases rv3; cases r3
          exact ⟨_, _, rfl, rfl, fin (.int _) h3⟩
      · exact h2.elim
    · exact h2.elim
  · exact h2.elim
def rSortDT : List V → Hp → VK → Prop := fun xs H Q => ∃ (a : Addr) (kvs : List (List Key × V)) (ks : List (Int × Int)), xs = [.ref a] ∧ Rd H a (.dT kvs) ∧ kvs.map (·.1) = ks.map (fun p => [Sum.inl p.1, Sum.inl p.2]) ∧
  ∀ (ts : List Addr) (js : List (Int × Int)) (p : Addr), js.Perm ks → js.Pairwise (fun p q => p.1 < q.1 ∨ p.1 = q.1 ∧ p.2 ≤ q.2) → Paired (fun (j : Int × Int) (t : Addr) => H t = some (.tup [.int j.1, .int j.2])) js ts → H p = none → Q (.ref p) (upd H p (.lst (ts.map V.ref)))
def pairAt (H : Hp) : Value → Int × Int
  | .ref t => match H t with
    | some (.tup [.int i, .int j]) => (i, j)
    | _ => (0, 0)
  | _ => (0, 0)
theorem call_sortedDT (hc : X.calm = true) : CallR X (.builtin "sorted") rSortDT := by
  intro pins s σ H xs us Q I r h
  obtain ⟨a, kvs, ks, rfl, hd, hks, q⟩ := h
  obtain ⟨u, rfl, rx⟩ := r.one
  cases rx
  obtain ⟨z, hs, bs, pr, o, es, ep, ho, hx, hdt, he, hn⟩ := (show ObjOk X.prog X.w H s.heap a (.dT kvs) from hd.ok I.hok)
  have l1 : es.size = bs.length := size_of_entries he
  have l2 : kvs.length = bs.length := Paired.length pr
  refine Calls.call_function_entry PyProof.Rows.kind_sorted PyProof.Rows.plain_sorted PyProof.Rows.entry_sorted (PyProof.Rows.args_sorted1 _) ?_
  unfold Builtin.«sorted»
  refine wpAny_bind (m := checkCount "sorted" 1 1 _) (wpAny_pure ?_)
  refine wpAny_bind (PySem.W.kdu_collect (A := X.A.in1) (kdl_raw hs hx hdt) (I.ok.hd hc) ho (by omega) fun h' tk acc hk hacc => ?_)
  have eb : acc.toList = (bs.map fun x => x.2.1).map Value.ref := by
    rw [List.map_map]
    refine List.ext_getElem? fun j => ?_
    have hal : acc.toList.length = bs.length := by rw [Array.length_toList, hacc.1]; exact l1
    rw [List.getElem?_map]
    cases hb : bs[j]? with
    | none => exact List.getElem?_eq_none (by have := List.getElem?_eq_none_iff.mp hb; omega)
    | some b =>
      have hjl : j < acc.toList.length := by rw [hal]; exact (List.getElem?_eq_some_iff.mp hb).1
      obtain ⟨en, hen, hv⟩ := hacc.2 j acc.toList[j] (by rw [← Array.getElem?_toList]; exact List.getElem?_eq_getElem hjl)
      have qe := entry_at he j
      rw [hen, hb] at qe
      have e2 : en = entryOfKey (tupleKind (mixKind X.prog X.w)) b := Option.some.inj qe
      rw [List.getElem?_eq_getElem hjl, hv, e2]
      rfl
  have hT := isKeys_of pr
  generalize hts : (bs.map fun x => x.2.1) = ts at eb hT
  have pmem : ∀ {l : List (Int × Int)} {m : List Addr}, Paired (fun (p : Int × Int) (t : Addr) => H t = some (.tup [.int p.1, .int p.2])) l m → ∀ t ∈ m, ∃ k : Int × Int, H t = some (.tup [.int k.1, .int k.2]) := fun h => by
    induction h with
    | nil => exact fun t ht => by cases ht
    | cons h1 h2 ih => exact fun t ht => (List.mem_cons.mp ht).elim (fun e => ⟨_, e ▸ h1⟩) (ih t)
  have hkv : Paired (fun (p : Int × Int) (t : Addr) => H t = some (.tup [.int p.1, .int p.2])) ks ts := by
    clear eb hts q he pr l2 hn hd r z
    unfold IsKeys at hT
    induction hT generalizing ks with
    | nil => cases ks with
      | nil => exact .nil
      | cons _ _ => cases hks
    | cons h1 h2 ih => cases ks with
      | nil => cases hks
      | cons k ks =>
        rw [List.map_cons, List.map_cons] at hks
        injection hks with hk1 hk2
        refine .cons ?_ (ih ks hk2)
        rw [hk1] at h1
        exact h1
  have hrefs : ∀ v ∈ ts.map Value.ref, ∃ t i j, v = Value.ref t ∧ t ∈ ts ∧ H t = some (.tup [.int i, .int j]) ∧ pairAt H v = (i, j) := fun v hv => by
    obtain ⟨t, ht, rfl⟩ := List.mem_map.mp hv
    obtain ⟨k, hk⟩ := pmem hkv t ht
    exact ⟨t, k.1, k.2, rfl, ht, hk, by unfold pairAt; dsimp only; rw [hk]⟩
  have pm : (ts.map Value.ref).map (pairAt H) = ks := by
    rw [List.map_map]
    have : ∀ {l : List (Int × Int)} {m : List Addr}, Paired (fun (p : Int × Int) (t : Addr) => H t = some (.tup [.int p.1, .int p.2])) l m → m.map (pairAt H ∘ Value.ref) = l := fun h => by
      induction h with
      | nil => rfl
      | cons h1 h2 ih =>
        rw [List.map_cons, ih]
        congr 1
        show pairAt H (.ref _) = _
        unfold pairAt
        dsimp only
        rw [h1]
    exact this hkv
  have hz : (ts.map Value.ref).length ≤ sizeLine := by rw [List.length_map, ← hts, List.length_map]; omega
  have I1 : Inv X pins σ H { s with heap := h', toks := tk } := I.kept hk
  rw [eb]
  refine wpAny_bind (wpAny_newList ?_ hz)
  have at1 : (h'.push (seqObj "list" (ts.map Value.ref).toArray 0)).get? h'.objs.size = some (seqObj "list" (ts.map Value.ref).toArray 0) := Heap.get?_push_size _ rfl
  have isp : ∀ v ∈ ts.map Value.ref, Srt.IsPair (h'.push (seqObj "list" (ts.map Value.ref).toArray 0)) v (pairAt H v).1 (pairAt H v).2 := fun v hv => by
    obtain ⟨t, i, j, rfl, _, ht, ep⟩ := hrefs v hv
    obtain ⟨its2, r2, ⟨o, ho, hc, n, hd⟩, _⟩ := I1.tuple (.inl (.inl ht))
    obtain ⟨u1, u2, rfl, ⟨t1, rfl⟩, ⟨t2, rfl⟩⟩ := vals2 r2
    rw [ep]
    exact ⟨t, o, t1, t2, n, rfl, Heap.get?_push_of_some _ ho, hc, hd⟩
  refine wpAny_bind (wpAny_holding (wpAny_call_entry slot_list_sort ⟨_, at1, rfl⟩ entry_list_sort (SrtO.list_sort_ord (SrtO.swo_lex (pairAt H)) at1 hz (fun h2 => SrtO.pairs_sortableO (by omega) isp fun o e c => ?_) fun out a1 a2 => ⟨_, rfl, ?_⟩) (args_list_sort _)))
  · have e' : some o = some (seqObj "list" (ts.map Value.ref).toArray 0) := e.symm.trans at1
    cases e'
    exact absurd (Value.type.inj c) (by decide)
  · obtain ⟨c, hc'⟩ := sortedHeap_at (vs := ts.map Value.ref) (out := out.toArray) at1
    have perm := a2.perm
    obtain ⟨ts', hts'⟩ : ∃ ts' : List Addr, out = ts'.map Value.ref := by
      have hall : ∀ v ∈ out, ∃ t, v = Value.ref t := fun v hv => by
        obtain ⟨t, _, _, e, _⟩ := hrefs v (perm.mem_iff.mp hv)
        exact ⟨t, e⟩
      clear a1 a2 perm hc'
      induction out with
      | nil => exact ⟨[], rfl⟩
      | cons v out ih =>
        obtain ⟨t, e⟩ := hall v (List.mem_cons_self ..)
        obtain ⟨r, e2⟩ := ih fun v hv => hall v (List.mem_cons_of_mem _ hv)
        exact ⟨t :: r, by rw [e, e2]; rfl⟩
    have keep : ∀ b u, h'.get? b = some u → (sortedHeap (h'.push (seqObj "list" (ts.map Value.ref).toArray 0)) h'.objs.size (ts.map Value.ref) out.toArray).get? b = some u := fun b u e => by
      have lt1 := Heap.lt_size e
      rw [sortedHeap_old (Nat.ne_of_lt lt1) (by rw [size_push']; exact Nat.lt_succ_of_lt lt1)]
      exact Heap.get?_push_of_some _ e
    have len : out.length = ts.length := by rw [perm.length_eq, List.length_map]
    refine wpAny_pure ⟨_, rfl, .ref h'.objs.size, upd H h'.objs.size (.lst (ts'.map V.ref)), I1.laid (t' := tk) (o := .lst (ts'.map V.ref)) keep (Nat.le_refl _) ?_, rfl, q ts' (out.map (pairAt H)) _ ?_ ?_ ?_ (I1.hok.fresh (Nat.le_refl _))⟩
    · refine ⟨by rw [List.length_map]; rw [hts', List.length_map] at len; rw [len, ← hts, List.length_map]; omega, out, c, by rw [hts']; exact vals_refs _, hc'⟩
    · exact (perm.map (pairAt H)).trans (List.Perm.of_eq pm)
    · refine List.pairwise_map.mpr (a1.imp fun {x y} h => ?_)
      have h6 := SrtO.lexB_no.mp h
      show (pairAt H x).1 < (pairAt H y).1 ∨ (pairAt H x).1 = (pairAt H y).1 ∧ (pairAt H x).2 ≤ (pairAt H y).2
      omega
    · have hall : ∀ t ∈ ts', ∃ i j, H t = some (.tup [.int i, .int j]) ∧ pairAt H (.ref t) = (i, j) := fun t ht => by
        obtain ⟨t', i, j, e, _, h1, h2⟩ := hrefs (.ref t) (perm.mem_iff.mp (by rw [hts']; exact List.mem_map_of_mem ht))
        cases e
        exact ⟨i, j, h1, h2⟩
      rw [hts', List.map_map]
      clear a1 a2 perm hc' len hts' keep q
      induction ts' with
      | nil => exact .nil
      | cons t r ih =>
        obtain ⟨i, j, h1, h2⟩ := hall t (List.mem_cons_self ..)
        rw [List.map_cons]
        refine .cons ?_ (ih fun t ht => hall t (List.mem_cons_of_mem _ ht))
        show H t = some (.tup [.int (pairAt H (.ref t)).1, .int (pairAt H (.ref t)).2])
        rw [h2]; exact h1
theorem CallR.or' {v : Value} {r r' : List V → Hp → VK → Prop} (h : CallR X v r) (h' : CallR X v r') : CallR X v (fun xs H Q => r xs H Q ∨ r' xs H Q) := by
  intro pins s σ H xs us Q I rv q
  rcases q with q | q
  · exact h pins s σ H xs us Q I rv q
  · exact h' pins s σ H xs us Q I rv q
theorem rep_dtp {H : Hp} : ∀ {js : List (Int × Int)} {ts : List Addr}, Paired (fun (j : Int × Int) (t : Addr) => H t = some (.tup [.int j.1, .int j.2])) js ts → RepWs K H (js.map fun p => W.tup [.int p.1, .int p.2]) (ts.map V.ref)
  | [], [], _ => .nil
  | _ :: _, _ :: _, .cons h t => .cons (.tup h (.cons (.int _) (.cons (.int _) .nil))) (rep_dtp t)
theorem sndT_srtd {p : Pos} (hc : X.calm = true) (hg : Gl X "sorted") (hm : X.mg "sorted" = none) (h1 : notStar a = true) (ha : PE X a (liftE X.K Wx ma)) :
    SndT X Wx (.Call (.Name "sorted" p) [a] [] pos) (fun σ S Q E => ma σ S (fun x S1 => srtdW x S1 fun ws => Q ws S1) E) := by
  refine ⟨pe_weak ((callOk_b (CallR.or' (call_sortedDI hc) (call_sortedDT hc)) hg hm boot_sorted (by decide) (by decide)) (by simp [noStars, h1]) (pa_cons ha pa_nil (star_cons h1))) fun Z H QV ⟨σ, S, Q, E, g, h, ps, px⟩ => ?_, fun _ => rfl, fun ⟨_, _, _, z⟩ => by cases z⟩
  refine ⟨σ, S, _, E, g, h, fun x S1 v H1 q g1 e1 r1 => ?_, px⟩
  unfold srtdW at q
  dsimp only at q
  split at q
  · rename_i ad
    cases r1
    split at q
    · rename_i kvs e
      obtain ⟨ks, hk, hl, q⟩ := q
      obtain ⟨vs, hv, rf⟩ := g1.st _ _ e
      refine .inl ⟨ad, vs, ks, rfl, .inl hv, by rw [← rf.keys]; exact hk, hl, fun ys l pm so hl => ?_⟩
      exact post_lst (PostT.next ps e1) g1 hl (RepWs.ofInts ys) (q ys pm so)
    · rename_i kvs e
      obtain ⟨ks, hk, q⟩ := q
      obtain ⟨vs, hv, rf⟩ := g1.st _ _ e
      refine .inr ⟨ad, vs, ks, rfl, .inl hv, by rw [← rf.keys]; exact hk, fun ts js l pm so pr hl => ?_⟩
      exact post_lst (PostT.next ps e1) g1 hl (rep_dtp pr) (q js pm so)
    · exact q.elim
  · exact q.elim
end
section
variable {X : Cx} {Wx : WX} {K : PySem.W.Frag} {a b c : Expr} {pos p2 : Pos} {ma mb mc : MTE}
theorem snd_dnewN : Snd X Wx (.Dict [] [] pos) (fun _ S Q _ => ∀ p, S p = none → Q (.ref p) (put S p (.dn []))) := by
  refine Snd.plain (pe_weak pe_dnewN fun Z H QV ⟨σ, S, Q, E, g, h, p, px⟩ => ?_) (fun _ => rfl) (fun ⟨_, _, _, z⟩ => by cases z)
  intro q hq
  have x : Ext S H (put S q (.dn [])) (upd H q (NdO q [])) := Ext.new hq
  exact p _ _ _ _ (h q (g.st.free hq)) (g.next x (g.st.put_at x (fun b v n e => by rw [upd_ne n]; exact e) ⟨[], [], ⟨upd_same, .nil, .nil, Nat.zero_le _⟩, trivial⟩)) x (.ref q)
def rEqE (k : Bool) : R2 := fun x y H Q => ∃ p q kvs, x = .ref p ∧ y = .ref q ∧ Rd H p (.dK kvs) ∧ Rd H q (.dK []) ∧ Q (.bl (kvs.isEmpty == k)) H
theorem kv_nil {vs : List (Key × Value)} (r : KV ([] : List (Key × V)) vs) : vs = [] := by
  have := r.length
  exact List.length_eq_zero_iff.mp this.symm
theorem op_eqE (hu : X.A.units + 1 < cLine) : OpR X (compareOp .Eq) (rEqE true) := by
  intro pins s σ H x y v u Q I rx ry h
  obtain ⟨p, q, kvs, rfl, rfl, ep, eq, hq⟩ := h
  obtain rfl : v = Value.ref p := rx
  obtain rfl : u = Value.ref q := ry
  obtain ⟨_, h1, vs, r1, d1⟩ := dk_rd I.hok ep
  obtain ⟨_, h2, us, r2, d2⟩ := dk_rd I.hok eq
  obtain rfl := kv_nil r2
  refine PySem.W.keq_eq (r := true) h1 h2 d1 d2 (by omega) (fun e => ?_) ⟨.bl (kvs.isEmpty == true), H, I, ?_, hq⟩
  · obtain rfl : vs = [] := List.length_eq_zero_iff.mp e
    exact .nil
  · have := r1.length
    cases kvs with
    | nil => rw [show vs = [] from kv_nil r1]; rfl
    | cons a l => cases vs with
      | nil => cases this
      | cons b m => rfl
theorem op_neE (hu : X.A.units + 1 < cLine) : OpR X (compareOp .NotEq) (rEqE false) := by
  intro pins s σ H x y v u Q I rx ry h
  obtain ⟨p, q, kvs, rfl, rfl, ep, eq, hq⟩ := h
  obtain rfl : v = Value.ref p := rx
  obtain rfl : u = Value.ref q := ry
  obtain ⟨_, h1, vs, r1, d1⟩ := dk_rd I.hok ep
  obtain ⟨_, h2, us, r2, d2⟩ := dk_rd I.hok eq
  obtain rfl := kv_nil r2
  refine PySem.W.keq_ne (r := true) h1 h2 d1 d2 (by omega) (fun e => ?_) ⟨.bl (kvs.isEmpty == false), H, I, ?_, hq⟩
  · obtain rfl : vs = [] := List.length_eq_zero_iff.mp e
    exact .nil
  · have := r1.length
    cases kvs with
    | nil => rw [show vs = [] from kv_nil r1]; rfl
    | cons a l => cases vs with
      | nil => cases this
      | cons b m => rfl
theorem snd_dem {o : CmpOp} {k : Bool} (hk : (match o with | .Eq => k | .NotEq => !k | _ => false) = true) (hu : X.A.units + 64 < cLine) (ha : PE X a (liftE X.K Wx ma)) :
    Snd X Wx (.Compare a [o] [.Dict [] [] p2] pos) (fun σ S Q E => ma σ S (fun x S1 => demW x S1 fun z => Q (.bl (z == k)) S1) E) := by
  have go : ∀ {Z : L2.St} {H H1 : Hp} {QV : VK} {σ : Envr} {S S1 : Sto} {Q : WQ} {x : W} {v1 : V}, demW x S1 (fun z => Q (.bl (z == k)) S1) → Gd X.K σ S1 Z H1 → Ext S H S1 H1 → RepW X.K H1 x v1 → PostE X.K σ S Z H Q QV → ∀ q, H1 q = none → rEqE k v1 (.ref q) (upd H1 q (.dK [])) QV := by
    intro Z H H1 QV σ S S1 Q x v1 h1 g1 e1 r1 p q hq
    unfold demW at h1
    split at h1
    · rename_i ad
      cases r1
      split at h1
      · rename_i kvs e
        obtain ⟨vs, hv, rf⟩ := g1.st _ _ e
        have ne : ad ≠ q := fun z => by subst z; rw [show H1 ad = some (.dK vs) from hv] at hq; cases hq
        have x2 : Ext S1 H1 S1 (upd H1 q (.dK [])) := Ext.fresh hq
        refine ⟨ad, q, vs, rfl, rfl, .inl (by rw [upd_ne ne]; exact hv), .inl upd_same, ?_⟩
        have el : vs.isEmpty = kvs.isEmpty := by
          have := rf.length
          cases kvs <;> cases vs <;> first | rfl | (cases this)
        rw [el]
        exact p _ _ _ _ h1 (g1.next x2 (g1.st.fresh hq)) (e1.trans x2) (.bl _)
      · exact h1.elim
    · exact h1.elim
  cases o <;> first | (simp at hk; done) | skip
  · have hk' : k = true := hk
    subst hk'
    refine Snd.cmp (pe_cmpR (op_eqE (by omega)) ha pe_dnewK (nomark _)) (pt_cmpR (op_eqE (by omega)) ha pe_dnewK (nomark _)) (fun Z H QV ⟨σ, S, Q, E, g, h, p, px⟩ => ?_) (fun ⟨_, _, _, z⟩ => by cases z)
    exact ⟨σ, S, _, E, g, h, fun x S1 v1 H1 h1 g1 e1 r1 => go h1 g1 e1 r1 p, px⟩
  · have hk' : k = false := by simpa using hk
    subst hk'
    refine Snd.cmp (pe_cmpR (op_neE (by omega)) ha pe_dnewK (nomark _)) (pt_cmpR (op_neE (by omega)) ha pe_dnewK (nomark _)) (fun Z H QV ⟨σ, S, Q, E, g, h, p, px⟩ => ?_) (fun ⟨_, _, _, z⟩ => by cases z)
    exact ⟨σ, S, _, E, g, h, fun x S1 v1 H1 h1 g1 e1 r1 => go h1 g1 e1 r1 p, px⟩
end
def sgsV (t : Str) : List V := t.cps.toList.map fun c => V.str ⟨#[c]⟩
theorem call_list_txt {X : Cx} (hc : X.calm = true) : CallR X (.type "list") (fun xs H Q => ∃ t : Str, xs = [.str t] ∧ t.length ≤ sizeLine ∧ ∀ l, H l = none → Q (.ref l) (upd H l (.lst (sgsV t)))) := by
  intro pins s σ H xs us Q I r h
  obtain ⟨t, e, hz, q⟩ := h
  subst e
  obtain ⟨u, eu, rx⟩ := vals1 r
  subst eu
  obtain ⟨tk, rfl⟩ : ∃ tk, u = Value.str t tk := rx
  have hz' : t.cps.size ≤ sizeLine := hz
  refine call_list_str (hn := hz') (I.ok.hd hc) t tk fun h' tk' acc' c' hkeep hS hacc => ?_
  refine ⟨.ref s.heap.objs.size, upd H s.heap.objs.size (.lst (sgsV t)), I.laid (t' := tk') hkeep (Nat.le_refl _) (show ObjOk X.prog X.w _ _ _ (.lst (sgsV t)) from ⟨?_, acc'.toList, c', ?_, ?_⟩), rfl, q _ (I.hok.fresh (Nat.le_refl _))⟩
  · unfold sgsV; rw [List.length_map, Array.length_toList]; exact hz'
  · have el : acc'.toList.length = acc'.size := by simp
    refine vals_of_at (by unfold sgsV; rw [List.length_map, Array.length_toList, el, hacc.1]) fun j x w h1 h2 => ?_
    obtain ⟨c, u, e1, e2⟩ := hacc.2 j w (by rw [← Array.getElem?_toList]; exact h2)
    unfold sgsV at h1
    rw [List.getElem?_map, Array.getElem?_toList, e1] at h1
    cases h1
    exact ⟨u, e2⟩
  · simpa using hS
theorem sgs_rep {K : PySem.W.Frag} {H : Hp} {t : Str} : RepWs K H (sgsW t) (sgsV t) := by
  unfold sgsW sgsV
  induction t.cps.toList with
  | nil => exact .nil
  | cons c l ih => exact .cons (.str _) ih
theorem sndT_chr {X : Cx} {Wx : WX} {a : Expr} {pos p : Pos} {ma : MTE} (hc : X.calm = true) (hg : Gl X "list") (hm : X.mg "list" = none) (h1 : notStar a = true) (ha : PE X a (liftE X.K Wx ma)) :
    SndT X Wx (.Call (.Name "list" p) [a] [] pos) (fun σ S Q E => ma σ S (fun x S1 => chrW x fun ws => Q ws S1) E) := by
  refine ⟨pe_weak ((callOk_t (call_list_txt hc) hg hm PyProof.Rows.boot_list (by decide) (by decide)) (by simp [noStars, h1]) (pa_cons ha pa_nil (star_cons h1))) fun Z H QV ⟨σ, S, Q, E, g, h, ps, px⟩ => ?_, fun _ => rfl, fun ⟨_, _, _, z⟩ => by cases z⟩
  refine ⟨σ, S, _, E, g, h, fun x S1 v H1 q g1 e1 r1 => ?_, px⟩
  cases x <;> first | exact q.elim | skip
  cases r1
  exact ⟨_, rfl, q.1, fun l hl => post_lst (PostT.next ps e1) g1 hl sgs_rep q.2⟩
section
variable {prog : Program} {w : World} {A : Around} {E : Value → Shared → Prop} {s : Shared}
set_option maxRecDepth 100000 in
theorem setItem_sliceO {l b sl : Addr} {items new : Array Value} {n n2 : Nat} {vl vu : Value} {lo hi : Option Int} {a c : Nat} {Q : Unit → Shared → Prop}
    (e : s.heap.get? l = some { cls := .type "list", data := .seq items n }) (e2 : s.heap.get? b = some { cls := .type "list", data := .seq new n2 }) (hne : l ≠ b)
    (hs : s.heap.IsSliceOf sl vl vu .none) (pl : IsPart vl lo) (pu : IsPart vu hi) (ha : HT.sIx items.size 0 lo = a) (hc : HT.sIx items.size items.size hi = c) (hac : a ≤ c)
    (hsz : items.size + new.size ≤ sizeLine) (h : Q () { s with heap := s.heap.update l (Obj.mapSeq fun xs => xs.extract 0 a ++ new ++ xs.extract c xs.size) }) :
    wpAny (model prog w) A (setItem (.ref l) (.ref sl) (.ref b)) Q E s := by
  have hl : s.heap.IsList l items := PySem.IsL.isList e
  have hb : s.heap.IsList b new := PySem.IsL.isList e2
  obtain ⟨os, hos, hcs, hds⟩ := id hs
  have hTs : s.TypeIs (.ref sl) "slice" := ⟨os, hos, hcs⟩
  have hstep : ¬ ((rawPart none == rawInt 0) = true) := Bool.false_ne_true
  have hsame : Builtin.List.listSameRef (.ref l) (.ref b) = false := by
    unfold Builtin.List.listSameRef
    exact beq_eq_false_iff_ne.mpr hne
  have hbd : sliceBounds lo hi none items.size = ((a : Int), (c : Int), 1) := by
    obtain ⟨h1, h2, h3⟩ := slice_bounds lo hi items.size
    rw [ha] at h1
    rw [hc] at h2
    exact Prod.ext h1 (Prod.ext h2 h3)
  have hmax : (max (a : Int) (c : Int)).toNat = c := by omega
  have hz' : ((fun xs : Array Value => xs.extract 0 a ++ new ++ xs.extract c xs.size) items).size ≤ sizeLine + 1 := by
    simp only [Array.size_append, Array.size_extract]
    omega
  unfold setItem
  try with_reducible refine wpAny_holding ?_
  first | refine wpAny_bind (wpAny_pure ?_) | skip
  refine wpAny_bind (wpAny_sequenceKey hl.typeIs (by decide) ?_)
  refine wpAny_bind (wpAny_callSpecial?_slot (name := Str.ofString "__setitem__") hl.typeIs slot_list_setitem
    (wpAny_call_entry slot_list_setitem hl.typeIs entry_list_setitem ?_ (args_list_setitem _ _ _)))
  show wpAny _ _ (Builtin.List.listSubscript? (.ref sl) >>= _) _ _ s
  refine wpAny_bind ?_
  unfold Builtin.List.listSubscript?
  refine wpAny_bind (wpAny_specialOf hTs slice_no_index ?_)
  simp only [Option.isNone_none, if_true]
  refine wpAny_pure ?_
  show wpAny _ _ (typeOf (.ref sl) >>= _) _ _ s
  refine wpAny_bind (wpAny_typeOf hTs ?_)
  first
    | rw [if_neg (by decide)]
    | refine PySem.W.KFB.if_not (by decide) ?_
  rw [listSliceParts_eq]
  refine wpAny_bind (wpAny_bind (wpAny_field hos hds (x := .none) rfl (wpAny_bind (wpAny_listPart .none ?_))))
  rw [if_neg hstep]
  refine wpAny_bind (wpAny_field hos hds (x := vl) rfl (wpAny_bind (wpAny_listPart pl ?_)))
  refine wpAny_bind (wpAny_field hos hds (x := vu) rfl (wpAny_bind (wpAny_listPart pu (wpAny_pure ?_))))
  first
    | simp only [hsame, Bool.false_eq_true, if_false]
    | refine PySem.W.KFB.if_not hsame ?_
    | (dsimp only
       rw [if_neg (by rw [hsame]; exact Bool.false_ne_true)])
  refine wpAny_bind (m := Builtin.List.listAllItems (.ref b) "must assign iterable to extended slice") ?_
  unfold Builtin.List.listAllItems
  refine wpAny_bind (wpAny_typeOf hb.typeIs ?_)
  first
    | refine PySem.W.KFB.if_so (by decide) ?_
    | rw [if_pos (by decide)]
    | simp only [beq_self_eq_true, Bool.true_or, if_true]
  unfold Builtin.List.listItems
  refine wpAny_bind (wpAny_seqItems e2 rfl (wpAny_pure ?_))
  refine wpAny_bind (wpAny_bind (wpAny_seqItems e rfl (wpAny_pure ?_)))
  refine wpAny_bind (wpAny_of_eq ((sliceIndices_raw lo hi none items.size (by simp)).trans (congrArg (pure : Int × Int × Int → Sem (Int × Int × Int)) hbd)) ?_)
  show wpAny _ _ (if ((1 : Int) == 1) = true then _ else _) _ _ s
  rw [if_pos (by decide)]
  refine wpAny_bind (wpAny_rule ?_)
  first
    | simp only [notLongL hsz, Bool.false_eq_true, if_false]
    | refine PySem.W.KFB.if_not (notLongL hsz) ?_
  first | refine wpAny_bind (wpAny_pure ?_) | skip
  show wpAny _ _ (updateSeq l (fun xs => xs.extract 0 ((a : Int)).toNat ++ new ++ xs.extract (max (a : Int) (c : Int)).toNat xs.size) >>= _) _ _ s
  rw [hmax, Int.toNat_natCast]
  refine wpAny_bind (wpAny_updateSeq (hz := Nat.le_trans (Nat.le_add_right _ _) hsz) (_hz' := hz') e rfl ?_)
  refine wpAny_bind (wpAny_letGo ?_)
  first
    | exact wpAny_bind (wpAny_pure (wpAny_pure ⟨.none, rfl, wpAny_pure h⟩))
    | exact wpAny_pure ⟨.none, rfl, wpAny_pure h⟩
end
section
variable {X : Cx} {Wx : WX} {a : Expr} {pos : Pos} {ma : Envr → Sto → WQ → XQ → Prop} {lo hi : Option Expr} {ml mh : Envr → Sto → (Option Int → Sto → Prop) → XQ → Prop}
theorem set_sliceO {pins : List (Addr × Obj)} {s : Shared} {σ : L2.St} {H : Hp} {l b sl : Addr} {xs ys : List V} {i j : Option Int} {vl vu : Value} {Q : Unit → Shared → Prop} (I : Inv X pins σ H s)
    (hH : H l = some (.lst xs)) (hB : H b = some (.lst ys)) (hne : l ≠ b) (hs : s.heap.IsSliceOf sl vl vu .none) (pl : IsPart vl i) (pu : IsPart vu j) (hac : HT.sIx xs.length 0 i ≤ HT.sIx xs.length xs.length j)
    (hz : xs.length + ys.length ≤ sizeLine) (h : ∀ s', Inv X pins σ (upd H l (.lst (xs.take (HT.sIx xs.length 0 i) ++ ys ++ xs.drop (HT.sIx xs.length xs.length j)))) s' → Q () s') :
    wpAny (model X.prog X.w) X.A (setItem (.ref l) (.ref sl) (.ref b)) Q X.xe s := by
  obtain ⟨z, its, n, r, hl, e⟩ := I.lstM hH
  obtain ⟨z2, its2, n2, r2, hl2, e2⟩ := I.lstM hB
  have hx : xs.length = its.length := by omega
  rw [hx] at hac h
  refine setItem_sliceO (a := HT.sIx its.length 0 i) (c := HT.sIx its.length its.length j) e e2 hne hs pl pu (by rw [List.size_toArray]) (by rw [List.size_toArray]) hac (by rw [List.size_toArray, List.size_toArray]; omega) (h _ ?_)
  refine I.lset (its' := its.take (HT.sIx its.length 0 i) ++ its2 ++ its.drop (HT.sIx its.length its.length j)) (t' := s.toks) hH e ?_ (Vals.append (Vals.append (r.take _) r2) (r.drop _)) ?_
  · exact splice_eq its its2 _ _
  · rw [List.length_append, List.length_append, List.length_take, List.length_drop]
    omega
theorem pg_sliceO {o : Expr} {to : TE} {tl th : TO} {p2 : Pos} (ho : PE X o to) (hl : PO X lo tl) (hh : PO X hi th) : PG X (.Subscript o (.Slice lo hi none p2) pos)
    (fun v σ H Q => to σ H fun x H1 => tl σ H1 fun i H2 => th σ H2 fun j H3 => ∃ l b xs ys, x = .ref l ∧ v = .ref b ∧ H3 l = some (.lst xs) ∧ H3 b = some (.lst ys) ∧ l ≠ b ∧ HT.sIx xs.length 0 i ≤ HT.sIx xs.length xs.length j ∧ xs.length + ys.length ≤ sizeLine ∧ Q σ (upd H3 l (.lst (xs.take (HT.sIx xs.length 0 i) ++ ys ++ xs.drop (HT.sIx xs.length xs.length j))))) := by
  refine ⟨fun pins s σ H v u Q I r h => ?_⟩
  have ha : assign (.Subscript o (.Slice lo hi none p2) pos) X.env u = (do
      let ov ← holding [u] (eval o X.env)
      let iv ← holding [u, ov] (eval (.Slice lo hi none p2) X.env)
      standAt pos
      holding [u, ov, iv] (setItem ov iv u)
      release [iv, u, ov] []) := rfl
  rw [ha]
  refine wpAny_bind (wpAny_holding (thn (ho.run pins s σ H _ I h) fun ov s1 ⟨x, H1, I1, r1, q1⟩ => ?_))
  refine wpAny_bind (wpAny_holding (wpAny_Slice ?_))
  refine thn (hl.run pins s1 σ H1 _ I1 q1) fun vl s2 ⟨i, H2, I2, r2, q2⟩ => ?_
  refine thn (hh.run pins s2 σ H2 _ I2 q2) fun vu s3 ⟨j, H3, I3, r3, q3⟩ => ?_
  rw [evalPart_none]
  refine wpAny_pure ?_
  obtain ⟨l, b, xs, ys, rfl, rfl, e1, e2, hne, i2, i3, q⟩ := q3
  cases r1
  cases r
  have I4 : Inv X pins σ H3 { s3 with heap := s3.heap.push { cls := .type "slice", data := .fields #[vl, vu, .none] } } := I3.kept (t' := s3.toks) fun b ob q => Heap.get?_push_of_some _ q
  refine wpAny_bind (wpAny_standAt (wpAny_bind (wpAny_holding (set_sliceO I4 e1 e2 hne (Heap.IsSliceOf.new ..) r2 r3 i2 i3 fun s5 I5 => ?_))))
  exact wpAny_release ⟨σ, _, I5, q⟩
theorem pg_sloL {p2 : Pos} (ho : PE X a (liftE X.K Wx ma)) (hl : PO X lo (liftO X.K Wx ml)) (hh : PO X hi (liftO X.K Wx mh)) : PG X (.Subscript a (.Slice lo hi none p2) pos) (liftG X.K [] fun w σ S Q E => ma σ S (fun x S1 => ml σ S1 (fun i S2 => mh σ S2 (fun j S3 => sloW x i j w S3 (Q σ)) E) E) E) := by
  refine pg_weak (pg_sliceO ho hl hh) fun v Z H Q ⟨w, σ, S, QM, g, r, h, p⟩ => ?_
  refine ⟨σ, S, _, noX, g, h, fun x S1 v1 H1 h1 g1 e1 r1 => ?_, PostX.no⟩
  refine ⟨σ, S1, _, noX, g1, h1, fun i S2 H2 h2 g2 e2 => ?_, PostX.no⟩
  refine ⟨σ, S2, _, noX, g2, h2, fun j S3 H3 h3 g3 e3 => ?_, PostX.no⟩
  unfold sloW at h3
  try dsimp only at h3
  split at h3
  · rename_i ad pd
    cases r1; cases r
    obtain ⟨hne, h3⟩ := h3
    split at h3
    · rename_i xs ex
      split at h3
      · rename_i ys ey
        obtain ⟨i2, i3, h3⟩ := h3
        obtain ⟨vx, hx, rx⟩ := g3.st _ _ ex
        obtain ⟨vy, hy, ry⟩ := g3.st _ _ ey
        rw [rx.length] at i2 h3
        refine ⟨ad, pd, vx, vy, rfl, rfl, hx, hy, hne.symm, i2, by rw [← rx.length, ← ry.length]; exact i3, ?_⟩
        have x : Ext S3 H3 (put S3 ad (.lst (xs.take (HT.sIx vx.length 0 i) ++ ys ++ xs.drop (HT.sIx vx.length vx.length j)))) (upd H3 ad (.lst (vx.take (HT.sIx vx.length 0 i) ++ vy ++ vx.drop (HT.sIx vx.length vx.length j)))) := Ext.write (by rw [ex]; exact fun z => by cases z) (g3.st.nfL ex)
        exact p _ _ _ _ h3 (g3.next x (g3.st.setLst ex (((rx.take _).append ry).append (rx.drop _)))) (((e1.trans e2).trans e3).trans x) ⟨rfl, fun _ _ => rfl⟩
      · exact h3.elim
    · exact h3.elim
  · exact h3.elim
end
section
variable {X : Cx} {Wx : WX} {K : PySem.W.Frag} {a b tg : Expr} {pos : Pos} {ma mb : MTE} {S S1 S' : Sto} {H H1 H' : Hp} {σ : Envr} {Z : L2.St}
theorem strs_rep : ∀ {ys : List Str}, RepWs K H (ys.map W.str) (ys.map V.str)
  | [] => .nil
  | _ :: _ => .cons (.str _) strs_rep
theorem sndT_spl {ap : Pos} (hl : (ap.endLine == pos.line) = true) (h1 : notStar b = true) (hb0 : baseOk a = true) (ha : PE X a (liftE X.K Wx ma)) (hb : PE X b (liftE X.K Wx mb)) :
    SndT X Wx (.Call (.Attribute a "split" ap) [b] [] pos) (fun σ S Q E => ma σ S (fun x S1 => (∃ z, x = .str z) ∧ mb σ S1 (fun y S2 => splW x y fun ws => Q ws S2) E) E) := by
  refine ⟨pe_weak (pe_split ha hb (star_cons h1) (base_ok hb0) hl) fun Z H QV ⟨σ, S, Q, E, g, h, p, px⟩ => ?_, fun _ => rfl, fun ⟨_, _, _, z⟩ => by cases z⟩
  refine ⟨σ, S, _, E, g, h, fun x S1 v1 H1 h1 g1 e1 r1 => ?_, px⟩
  obtain ⟨⟨z, rfl⟩, h1⟩ := h1
  cases r1
  refine ⟨⟨z, rfl⟩, σ, S1, _, E, g1, h1, fun y S2 v2 H2 h2 g2 e2 r2 => ?_, px.next e1⟩
  unfold splW at h2
  cases y <;> first | exact h2.elim | skip
  cases r2
  exact ⟨_, _, rfl, rfl, h2.1, h2.2.1, fun q hq => post_lst (PostT.next p (e1.trans e2)) g2 hq strs_rep h2.2.2⟩
theorem walk_s {t : Str} : Walk K S H (sgsW t) (fun _ => True) (Its t) := fun S2 H2 x2 g2 h2 => by
  refine ⟨fun i w hw => ?_, ?_⟩
  · unfold sgsW at hw
    rw [List.getElem?_map, Array.getElem?_toList] at hw
    cases e : t.cps[i]? with
    | none => rw [e] at hw; cases hw
    | some c =>
      rw [e] at hw
      cases hw
      refine ⟨(Array.getElem?_eq_some_iff.mp e).1, fun x H3 hy => ?_⟩
      obtain ⟨rfl, c', e', rfl⟩ := hy
      rw [e] at e'; cases e'
      exact ⟨g2, .refl, .str _⟩
  · show t.cps.size ≤ _
    unfold sgsW
    rw [List.length_map, Array.length_toList]
    exact Nat.le_refl _
theorem pi_chrL (ha : PE X a (liftE X.K Wx ma)) : PI X tg a (liftI X.K Wx fun σ S Q E => ma σ S (fun x S1 => match x with
    | .str t => Q (sgsW t) (fun _ => True) S1
    | _ => False) E) := by
  refine pi_weak (pi_str ha) fun Z H R ⟨σ, S, Q, E, g, h, p, px⟩ => ?_
  refine ⟨σ, S, _, E, g, h, fun w S1 v H1 q g1 e1 r1 => ?_, px⟩
  cases w <;> first | exact q.elim | skip
  cases r1
  exact ⟨_, rfl, p _ _ _ _ _ q g1 e1 walk_s⟩
theorem TupK.at_ {p : Addr} {vs : List V} (h : TupK K p vs) : SqT K H p vs := .inr h
theorem reps_key : ∀ {ks : List Key}, RepWs K H (ks.map kW) (ks.map kV)
  | [] => .nil
  | .inl _ :: _ => .cons (.int _) reps_key
  | .inr _ :: _ => .cons (.str _) reps_key
theorem walk_zg {p q : Addr} {xs ys : List Key} (r1 : TupK K p (xs.map kV)) (r2 : TupK K q (ys.map kV)) : Walk K S H (zipW (xs.map kW) (ys.map kW)) (fun _ => True) (RZ.ItzT K p q) := fun S2 H2 x2 g2 hs => by
  have z1 : SqT K H2 p (xs.map kV) := r1.at_
  have z2 : SqT K H2 q (ys.map kV) := r2.at_
  refine ⟨fun i w hw => ?_, _, _, z1, z2, ?_⟩
  · obtain ⟨x, y, hx, hy, rfl⟩ := zip_get hw
    obtain ⟨v, hv, rv⟩ := (reps_key (K := K) (H := H2)).get hx
    obtain ⟨u, hu, ru⟩ := (reps_key (K := K) (H := H2)).get hy
    refine ⟨⟨_, _, v, u, z1, z2, hv, hu⟩, ?_⟩
    rintro t H3 ⟨T, x', y', rfl, hT, rfl, q1, q2⟩
    have e1 := q1 _ z1
    have e2 := q2 _ z2
    rw [hv] at e1; cases e1
    rw [hu] at e2; cases e2
    exact rep_pair g2 hT rv ru
  · unfold zipW
    rw [List.length_zipWith, List.length_map, List.length_map, List.length_map, List.length_map]
    omega
theorem pi_zipgL {tgs : List Expr} {kk : Nat} {tpos p p1 p2 : Pos} {x y : Str} {xs ys : List Key} {a1 a2 : Addr} (hg : Gl X "zip") (hm : X.mg "zip" = none) (h1 : Gl X x) (m1 : X.mg x = some (.ref a1)) (t1 : TupK X.K a1 (xs.map kV)) (d1 : (x == ("__debug__" : Str)) = false)
    (h2 : Gl X y) (m2 : X.mg y = some (.ref a2)) (t2 : TupK X.K a2 (ys.map kV)) (d2 : (y == ("__debug__" : Str)) = false) :
    PI X (.Tuple tgs kk tpos) (.Call (.Name "zip" p) [.Name x p1, .Name y p2] [] pos) (liftI X.K Wx fun _ S Q _ => Q (zipW (xs.map kW) (ys.map kW)) (fun _ => True) S) := by
  refine pi_weak (RZ.pi_zipA hg hm (pa_cons (pe_glob (v := .ref a1) h1 m1 rfl d1) (pa_cons (pe_glob (v := .ref a2) h2 m2 rfl d2) pa_nil (star_cons rfl)) (star_cons rfl)) (star_cons rfl) (by rw [star_cons rfl]; rfl)) fun Z H R ⟨σ, S, Q, E, g, h, p, px⟩ => ?_
  exact ⟨a1, a2, _, _, rfl, .inr ⟨t1.at_, t2.at_, p _ _ _ _ _ h g .refl (walk_zg t1 t2)⟩⟩
end
section
variable {X : Cx} {Wx : WX} {st : Stmt} {ms : MEnds → Envr → Sto → Prop}
theorem ps_lckL (h : PS X st (liftS X.K Wx ms)) : PS X st (liftS X.K Wx fun D σ S => ∃ a kvs, S a = some (.dk false kvs) ∧ ms { nx := fun σ' S' => D.nx σ' (put S' a (.dk false kvs)), rt := fun w S' => D.rt w (put S' a (.dk false kvs)), bk := fun σ' S' => D.bk σ' (put S' a (.dk false kvs)), ct := fun σ' S' => D.ct σ' (put S' a (.dk false kvs)), ex := fun _ _ _ => False } σ (put S a (.dk true kvs))) := by
  refine ps_weak (ps_lock h) fun D Z H ⟨σ, S, E, g, ⟨a, kvs, hS, hm⟩, pnx, prt, pbk, pct, pex⟩ => ?_
  obtain ⟨vs, hv, rf⟩ := g.st a _ hS
  have hv : H a = some (.dK vs) := hv
  refine ⟨a, .dK vs, hv, trivial, fun od => ?_⟩
  have gl := g.lockK (od := od) hv rf
  have un : ∀ {S1 : Sto} {H1 : Hp}, Ext (put S a (.dk true kvs)) (upd H a (.frz od (.dK vs))) S1 H1 → H1 a = some (.frz od (.dK vs)) ∧ RepO X.K (upd H1 a (.dK vs)) (.dk false kvs) a ∧ Ext S H (put S1 a (.dk false kvs)) (upd H1 a (.dK vs)) := fun {S1 H1} e1 => by
    have fz := e1.fz a od (.dK vs) upd_same
    exact ⟨fz, ⟨vs, upd_same, rf.mono (((Stay.dic hv trivial).trans (e1.stay gl.st)).trans (Stay.fz fz trivial))⟩, e1.lockedK hS hv trivial⟩
  refine ⟨σ, put S a (.dk true kvs), _, gl, hm, fun σ' S' Z' H' q g' e' => ?_, fun w S' v H' q g' e' r' => ?_, fun σ' S' Z' H' q g' e' => ?_, fun σ' S' Z' H' q g' e' => ?_, fun _ _ _ _ _ q => q.elim⟩
  · obtain ⟨fz, ro, ex⟩ := un e'
    exact ⟨fz, pnx _ _ _ _ q (g'.unlock fz trivial ro) ex⟩
  · obtain ⟨fz, ro, ex⟩ := un e'
    exact ⟨fz, prt _ _ _ _ q (g'.unlock fz trivial ro) ex (r'.mono (Stay.fz fz trivial))⟩
  · obtain ⟨fz, ro, ex⟩ := un e'
    exact ⟨fz, pbk _ _ _ _ q (g'.unlock fz trivial ro) ex⟩
  · obtain ⟨fz, ro, ex⟩ := un e'
    exact ⟨fz, pct _ _ _ _ q (g'.unlock fz trivial ro) ex⟩
end
theorem insC_of {X : Cx} {S : Sto} {H : Hp} {x : W} {v : V} {C : Addr} (g : StOk X.K S H) (r : RepW X.K H x v) (h : insC x C S) : ∃ ad dx vs, v = .ref ad ∧ H ad = some (.ins C dx vs) := by
  cases x <;> first | exact h.elim | skip
  rename_i ad
  cases r
  unfold insC at h
  dsimp only at h
  split at h
  · rename_i D fs e
    subst h
    obtain ⟨dx, vs, hv, rf⟩ := g _ _ e
    exact ⟨ad, dx, vs, rfl, hv⟩
  · exact h.elim
theorem snd_isC {X : Cx} {Wx : WX} {ma : MTE} {x : Expr} {y : Str} {pos p p2 : Pos} {D : Addr} (c : C8.InsC X.K D) (hg : Gl X "isinstance") (hm : X.mg "isinstance" = none) (hc : PE X (.Name y p2) (tC (.ref D))) (h1 : notStar x = true) (ha : PE X x (liftE X.K Wx ma)) :
    Snd X Wx (.Call (.Name "isinstance" p) [x, .Name y p2] [] pos) (fun σ S Q E => ma σ S (fun x S1 => insC x D S1 ∧ Q (.bl true) S1) E) := by
  refine call_plain (pe_weak ((callOk_b (C8.call_isC c) hg hm PyProof.Rows.boot_isinstance (by decide) (by decide)) (by simp only [noStars, List.all_cons, h1, Bool.true_and]; rfl) (pa_cons ha (pa_cons hc pa_nil (star_cons rfl)) (star_cons h1))) fun Z H QV ⟨σ, S, Q, E, g, h, p, px⟩ => ?_)
  refine ⟨σ, S, _, E, g, h, fun w S1 v H1 q g1 e1 r1 => ?_, px⟩
  obtain ⟨hs, q⟩ := q
  obtain ⟨ad, dx, vs, rfl, hv⟩ := insC_of g1.st r1 hs
  exact ⟨ad, dx, vs, rfl, hv, p _ _ _ _ q g1 e1 (.bl _)⟩
theorem mt_joinT {X : Cx} (hc : X.calm = true) : MtR X "str.join" (fun x xs H Q => ∃ a b : Str, x = .str a ∧ xs = [.str b] ∧ b.length + b.length * a.length ≤ 16777216 ∧ Q (.str (Txt.join a (signs b))) H) := by
  intro pins s σ H x xs v us Q I rx rs h
  obtain ⟨a, b, rfl, rfl, hz, h⟩ := h
  obtain ⟨t, rfl⟩ := rx
  cases rs with
  | cons r1 rs =>
    cases rs
    obtain ⟨u, rfl⟩ := r1
    exact PySem.SC.joinStr (I.ok.hd hc) (joinOk_signsN (Nat.le_refl _) (Nat.le_refl _) hz) fun h' k t' hk => ⟨.str _, H, I.kept hk, ⟨t', rfl⟩, h⟩
section
variable {X : Cx} {Wx : WX}
theorem snd_joinT {a r0 : Expr} {pos ap : Pos} {ma mb : MTE} (hc : X.calm = true) (hl : (ap.endLine == pos.line) = true) (h1 : notStar a = true) (hb0 : baseOk r0 = true) (ho : PE X r0 (liftE X.K Wx ma)) (ha : PE X a (liftE X.K Wx mb)) :
    Snd X Wx (.Call (.Attribute r0 "join" ap) [a] [] pos) (fun σ S Q E => ma σ S (fun x S1 => (∃ z, x = .str z) ∧ mb σ S1 (fun y S2 => joinTW x y fun w => Q w S2) E) E) := by
  refine Snd.plain (pe_weak (pe_bm PySem.F.plainAttrs_str PySem.F.slot_str_join PySem.F.type_str_join (mt_joinT hc) ho (pa_cons ha pa_nil (star_cons h1)) (base_ok hb0) (bm_few h1) hl (star_cons h1) rfl) fun Z H QV ⟨σ, S, Q, E, g, h, p, px⟩ => ?_) (fun _ => rfl) (fun ⟨_, _, _, z⟩ => by cases z)
  refine ⟨σ, S, _, E, g, h, fun x S1 v1 H1 h1 g1 e1 r1 => ?_, px⟩
  obtain ⟨⟨z, rfl⟩, h1⟩ := h1
  cases r1
  refine ⟨rfl, σ, S1, _, E, g1, h1, fun y S2 v2 H2 h2 g2 e2 r2 => ?_, px.next e1⟩
  cases y <;> first | exact h2.elim | skip
  cases r2
  exact ⟨z, _, rfl, rfl, h2.1, p _ _ _ _ h2.2 g2 (e1.trans e2) (.str _)⟩
theorem rga_rep {K : PySem.W.Frag} {H : Hp} {i j : Int} : RepWs K H (rngW i (j - i).toNat) (rgV i j) := by
  unfold rngW rgV
  induction List.range (j - i).toNat with
  | nil => exact .nil
  | cons c l ih => exact .cons (.int _) ih
theorem sndT_rga {x y : Expr} {p p2 pos pos2 : Pos} {ma mb : MTE} (hc : X.calm = true) (hg : Gl X "list") (hm : X.mg "list" = none) (hg2 : Gl X "range") (hm2 : X.mg "range" = none) (h1 : notStar x = true) (h2 : notStar y = true) (ha : PE X x (liftE X.K Wx ma)) (hb : PE X y (liftE X.K Wx mb)) :
    SndT X Wx (.Call (.Name "list" p) [.Call (.Name "range" p2) [x, y] [] pos2] [] pos) (fun σ S Q E => ma σ S (fun x S1 => mb σ S1 (fun y S2 => rgaW x y fun ws => Q ws S2) E) E) := by
  refine ⟨pe_weak (pe_listRg hc hg hm (prg_2 hg2 hm2 ha hb (star_cons h1) (star_cons h2) (by rw [star_cons h2]; rfl)) rfl) fun Z H QV ⟨σ, S, Q, E, g, h, ps, px⟩ => ?_, fun _ => rfl, fun ⟨_, _, _, z⟩ => by cases z⟩
  refine ⟨σ, S, _, E, g, h, fun x S1 v H1 q g1 e1 r1 => ?_, px⟩
  refine ⟨σ, S1, _, E, g1, q, fun y S2 u H2 q2 g2 e2 r2 => ?_, px.next e1⟩
  cases x <;> first | exact q2.elim | skip
  cases y <;> first | exact q2.elim | skip
  cases r1
  cases r2
  obtain ⟨b1, b2, b3, b4, q2⟩ := q2
  exact ⟨_, _, rfl, rfl, ⟨by omega, by omega, by omega, by omega, by omega⟩, fun l hl => post_lst (PostT.next ps (e1.trans e2)) g2 hl rga_rep q2⟩
end
end M3
namespace HT
open PySem PySem.Spec PyProof.Rows
section
variable {prog : Program} {w : World} {A : Around} {E : Value → Shared → Prop} {s : Shared}
theorem adjust_rev (n : Nat) : Builtin.Slice.sliceAdjust none none (-1) (n : Int) = ((n : Int) - 1, -1) := rfl
theorem places_rev (n : Nat) : Builtin.Slice.slicePlaces ((n : Int) - 1) (-1) (-1) = n := by
  unfold Builtin.Slice.slicePlaces
  have h1 : ¬ ((-1 : Int) > 0) := by decide
  simp only [h1, if_false]
  by_cases h : (n : Int) - 1 > -1
  · simp only [h, if_true]
    rw [show (- -1 : Int) = 1 by decide, Int.ediv_one]
    omega
  · simp only [h, if_false]
    omega
theorem fm_congr {α β : Type} {f g : α → Option β} : ∀ {l : List α}, (∀ x ∈ l, f x = g x) → l.filterMap f = l.filterMap g
  | [], _ => rfl
  | a :: l, h => by rw [List.filterMap_cons, List.filterMap_cons, h a (by simp), fm_congr fun x hx => h x (by simp [hx])]
theorem pick_rev (xs : Array Value) : ((List.range xs.size).filterMap fun (k : Nat) => xs[((xs.size : Int) - 1 + (k : Int) * -1).toNat]?).toArray = xs.toList.reverse.toArray := by
  have e : ((List.range xs.size).filterMap fun (k : Nat) => xs[((xs.size : Int) - 1 + (k : Int) * -1).toNat]?) = ((List.range xs.size).map fun k => xs.size - 1 - k).filterMap (xs[·]?) := by
    rw [List.filterMap_map]
    refine fm_congr fun k hk => ?_
    have := List.mem_range.mp hk
    show xs[((xs.size : Int) - 1 + (k : Int) * -1).toNat]? = xs[xs.size - 1 - k]?
    congr 1
    omega
  rw [e, PySem.W.krv_range, List.filterMap_reverse, PySem.W.krv_all]
theorem sliceApplied_rev {sl : Addr} {vl vu vs : Value} {n : Nat} {Q : Int × Int × Nat → Shared → Prop} (hs : s.heap.IsSliceOf sl vl vu vs) (pl : IsPart vl none) (pu : IsPart vu none) (ps : IsPart vs (some (-1)))
    (h : Q ((n : Int) - 1, -1, n) s) : wpAny (model prog w) A (Builtin.Slice.sliceApplied (.ref sl) (pure (n : Int))) Q E s := by
  obtain ⟨os, hos, hcs, hds⟩ := id hs
  unfold Builtin.Slice.sliceApplied Builtin.Slice.sliceFields
  refine wpAny_bind (wpAny_bind (wpAny_field hos hds (x := vl) rfl (wpAny_bind (wpAny_field hos hds (x := vu) rfl (wpAny_bind (wpAny_field hos hds (x := vs) rfl (wpAny_pure ?_)))))))
  refine wpAny_bind (slicePart_ ps ?_)
  show wpAny _ _ (if ((-1 : Int) == 0) = true then _ else _) _ _ s
  rw [if_neg (by decide)]
  refine wpAny_bind (slicePart_ pl (wpAny_bind (slicePart_ pu (wpAny_bind (wpAny_pure ?_)))))
  show wpAny _ _ (match Builtin.Slice.sliceAdjust none none (-1) (n : Int) with | (lo, hi) => pure (lo, (-1 : Int), Builtin.Slice.slicePlaces lo hi (-1))) _ _ s
  rw [adjust_rev n]
  show wpAny _ _ (pure ((n : Int) - 1, (-1 : Int), Builtin.Slice.slicePlaces ((n : Int) - 1) (-1) (-1))) _ _ s
  rw [places_rev]
  exact wpAny_pure h
theorem getItem_tuple_rev {t sl : Addr} {items : Array Value} {vl vu vs : Value} {Q : Value → Shared → Prop} (ht : IsTup s.heap t items) (hs : s.heap.IsSliceOf sl vl vu vs) (pl : IsPart vl none) (pu : IsPart vu none) (ps : IsPart vs (some (-1)))
    (h : Q (.ref s.heap.objs.size) { s with heap := s.heap.push { cls := .type "tuple", data := .seq items.toList.reverse.toArray } })
    (hsz : items.size ≤ sizeLine) : wpAny (model prog w) A (getItem (.ref t) (.ref sl)) Q E s := by
  have htake : sizeOk (.seq items.toList.reverse.toArray) := by
    show items.toList.reverse.toArray.size ≤ sizeLine
    rw [List.size_toArray, List.length_reverse, Array.length_toList]
    omega
  obtain ⟨os, hos, hcs, hds⟩ := id hs
  have hTs : s.TypeIs (.ref sl) "slice" := ⟨os, hos, hcs⟩
  unfold getItem
  try with_reducible refine wpAny_holding ?_
  first | refine wpAny_bind (wpAny_pure ?_) | skip
  refine wpAny_bind (wpAny_sequenceKey ht.typeIs (by decide) ?_)
  refine wpAny_bind (wpAny_callSpecial?_slot (name := Str.ofString "__getitem__") ht.typeIs PyProof.Rows.slot_tuple_getitem
    (wpAny_call_entry PyProof.Rows.slot_tuple_getitem ht.typeIs entry_tuple_getitem ?_ (args_tuple_getitem _ _)))
  show wpAny _ _ (Builtin.Tuple.tupleItemsOf (.ref t) >>= _) _ _ s
  refine wpAny_bind (tupleItemsOf_ ht ?_)
  refine wpAny_bind (wpAny_typeOf hTs ?_)
  rw [if_pos (by decide)]
  refine wpAny_bind (sliceApplied_rev hs pl pu ps ?_)
  have hno : ¬ ((((items.size : Int) - 1) == 0 && (-1 : Int) == 1 && items.size == items.size) = true) := by
    intro q
    rw [Bool.and_eq_true, Bool.and_eq_true] at q
    exact absurd q.1.2 (by decide)
  show wpAny _ _ (if (((items.size : Int) - 1) == 0 && (-1 : Int) == 1 && items.size == items.size) = true then _ else _) _ _ s
  rw [if_neg hno, pick_rev]
  first
    | exact wpAny_bind (m := Builtin.Tuple.tupleExact _) (wpAny_newObj_type (wpAny_pure ⟨_, rfl, wpAny_pure h⟩) htake)
    | exact wpAny_bind (m := Builtin.Tuple.tupleExact _) (wpAny_newObj_type (wpAny_bind (wpAny_pure (wpAny_pure ⟨_, rfl, wpAny_pure h⟩))) htake)
    | exact wpAny_bind (wpAny_bind (m := Builtin.Tuple.tupleExact _) (wpAny_newObj_type (wpAny_pure (wpAny_pure ⟨_, rfl, wpAny_pure h⟩)) htake))
    | exact wpAny_bind (wpAny_bind (m := Builtin.Tuple.tupleExact _) (wpAny_newObj_type (wpAny_pure ⟨_, rfl, wpAny_pure h⟩) htake))
end
end HT
namespace M3
open PySem PySem.Spec PyProof.Rows L2
def tRevT (K : PySem.W.Frag) (te : TE) : TE := fun σ H Q => te σ H fun x H1 => ∃ a xs, x = .ref a ∧ SqT K H1 a xs ∧ ∀ p, H1 p = none → Q (.ref p) (upd H1 p (.tup xs.reverse))
section
variable {X : Cx}
theorem pe_revT {e : Expr} {te : TE} {k : Nat} {p1 p2 p3 pos : Pos} (he : PE X e te) : PE X (.Subscript e (.Slice none none (some (.UnaryOp .USub (.Constant (.int 1) k p1) p2)) p3) pos) (tRevT X.K te) := by
  refine ⟨fun pins s σ H Q I h => ?_⟩
  refine Subscript_ (thn (he.run pins s σ H _ I h) fun v s1 ⟨x, H1, I1, r1, q1⟩ => ?_)
  obtain ⟨a, xs, ex, hx, q⟩ := q1
  subst ex
  cases r1
  have hst : PO X (some (.UnaryOp .USub (.Constant (.int 1) k p1) p2)) (tPart (tUn (rU fun i => .int (-i)) (tC (.int 1)))) := po_some (pe_un un_neg pe_int)
  refine wpAny_Slice (thn (po_none.run pins s1 σ H1 (fun o H2 => o = none ∧ H2 = H1) I1 ⟨rfl, rfl⟩) fun vl s2 ⟨l, H2, I2, pl, el, e2⟩ => ?_)
  subst el e2
  refine thn (po_none.run pins s2 σ H2 (fun o H3 => o = none ∧ H3 = H2) I2 ⟨rfl, rfl⟩) fun vu s3 ⟨u, H3, I3, pu, eu, e3⟩ => ?_
  subst eu e3
  refine thn (hst.run pins s3 σ H3 (fun o H4 => o = some (-1) ∧ H4 = H3) I3 ⟨1, rfl, -1, rfl, rfl, rfl⟩) fun vs s4 ⟨o, H4, I4, ps, eo, e4⟩ => ?_
  subst eo e4
  have I5 : Inv X pins σ H4 { s4 with heap := s4.heap.push { cls := .type "slice", data := .fields #[vl, vu, vs] } } := I4.kept (t' := s4.toks) fun b ob q => Heap.get?_push_of_some _ q
  obtain ⟨its, r, ht, hz⟩ := I5.tuple hx
  have hlen := r.length
  show wpAny (model X.prog X.w) X.A (subscriptTail e (.Slice none none (some (.UnaryOp .USub (.Constant (.int 1) k p1) p2)) p3) (.ref a) (.ref s4.heap.objs.size)) (EP X pins σ Q) X.xe { s4 with heap := s4.heap.push { cls := .type "slice", data := .fields #[vl, vu, vs] } }
  refine tail_any (ops := [.ref a, .ref s4.heap.objs.size]) ht.typeIs (PyProof.Rows.slot_tuple_getitem.lookup) ?_ (by with_unfolding_all rfl)
  refine HT.getItem_tuple_rev ht (Heap.IsSliceOf.new _ vl vu vs) pl pu ps ?_ (by rw [List.size_toArray]; omega)
  refine ⟨.ref _, _, I5.laid (t' := s4.toks) (o := .tup xs.reverse) (fun b ob q => Heap.get?_push_of_some _ q) (Nat.le_refl _) ?_, rfl, q _ (I5.hok.fresh (Nat.le_refl _))⟩
  exact ⟨by rw [List.length_reverse]; exact hz, _, r.reverse, IsTup.new _ _⟩
end
section
variable {X : Cx} {Wx : WX}
theorem snd_revT {a : Expr} {ma : MTE} {k : Nat} {p1 p2 p3 pos : Pos} (ha : PE X a (liftE X.K Wx ma)) :
    Snd X Wx (.Subscript a (.Slice none none (some (.UnaryOp .USub (.Constant (.int 1) k p1) p2)) p3) pos) (fun σ S Q E => ma σ S (fun x S1 => match x with
    | .tup ws => Q (.tup ws.reverse) S1
    | _ => False) E) := by
  refine Snd.plain (pe_weak (pe_revT ha) fun Z H QV ⟨σ, S, Q, E, g, h, p, px⟩ => ?_) (fun _ => rfl) (fun ⟨_, _, _, z⟩ => by cases z)
  refine ⟨σ, S, _, E, g, h, fun x S1 v1 H1 h1 g1 e1 r1 => ?_, px⟩
  cases x <;> first | exact h1.elim | skip
  cases r1 with
  | tup q r => exact ⟨_, _, rfl, SqT.of q, fun ad had => post_tup (fun w S' v H' q g' e' r' => p w S' v H' q g' (e1.trans e') r') g1 had r.reverse h1⟩
end
def rEqT0 (K : PySem.W.Frag) : R2 := fun x y H Q => ∃ a b xs, x = .ref a ∧ y = .ref b ∧ SqT K H a xs ∧ SqT K H b [] ∧ Q (.bl xs.isEmpty) H
theorem op_eqT0 {X : Cx} (hu : X.A.units + 64 < cLine) : OpR X (compareOp .Eq) (rEqT0 X.K) := by
  intro pins s σ H x y v u Q I rx ry h
  obtain ⟨a, b, xs, rfl, rfl, ha, hb, q⟩ := h
  cases rx
  cases ry
  obtain ⟨its, r1, ⟨o, ho, hc, n, hd⟩, _⟩ := I.tuple ha
  obtain ⟨its2, r2, ⟨o2, ho2, hc2, n2, hd2⟩, _⟩ := I.tuple hb
  cases r2
  refine PySem.SeqAt.eq_tupleAt (e := fun _ => true) ⟨o, ho, hc, n, hd⟩ ⟨o2, ho2, hc2, n2, hd2⟩ (by omega) (fun j h1 h2 => absurd h2 (by simp)) ?_
  have e : ((List.range (min its.toArray.size ([] : List Value).toArray.size)).all (fun _ => true) && its.toArray.size == ([] : List Value).toArray.size) = xs.isEmpty := by
    have := r1.length
    cases xs with
    | nil => cases r1; rfl
    | cons x xs => cases r1; simp
  rw [e]
  exact ⟨.bl _, H, I, rfl, q⟩
section
variable {X : Cx} {Wx : WX}
theorem snd_eqE {a b : Expr} {ma mb : MTE} {pos : Pos} (hu : X.A.units + 64 < cLine) (ha : PE X a (liftE X.K Wx ma)) (hb : PE X b (liftE X.K Wx mb)) :
    Snd X Wx (.Compare a [.Eq] [b] pos) (fun σ S Q E => ma σ S (fun x S1 => mb σ S1 (fun y S2 => eqEW x y fun z => Q (.bl z) S2) E) E) := by
  refine Snd.cmp (pe_cmpR (op_eqT0 hu) ha hb (nomark _)) (pt_cmpR (op_eqT0 hu) ha hb (nomark _)) (fun Z H QV ⟨σ, S, Q, E, g, h, p, px⟩ => ?_) (fun ⟨_, _, _, z⟩ => by cases z)
  refine ⟨σ, S, _, E, g, h, fun x S1 v1 H1 h1 g1 e1 r1 => ?_, px⟩
  refine ⟨σ, S1, _, E, g1, h1, fun y S2 v2 H2 h2 g2 e2 r2 => ?_, px.next e1⟩
  have r1 := e2.rep g1.st r1
  unfold eqEW at h2
  dsimp only at h2
  split at h2
  · cases r1 with
    | tup q1 rr1 =>
      cases r2 with
      | tup q2 rr2 =>
        cases rr2
        refine ⟨_, _, _, rfl, rfl, SqT.of q1, SqT.of q2, ?_⟩
        refine p _ _ _ _ ?_ g2 (e1.trans e2) (.bl _)
        have e : ∀ {ws : List W} {vs : List V}, RepWs X.K H2 ws vs → vs.isEmpty = ws.isEmpty := fun h => by cases h <;> rfl
        rw [e rr1]; exact h2
  · exact h2.elim
end
section
variable {X : Cx} {Wx : WX} {K : PySem.W.Frag} {a : Expr} {pos : Pos} {ml : Envr → Sto → LQ → XQ → Prop} {S S1 : Sto} {H H1 : Hp}
theorem keyOf2_eq {w : W} {k : Int × Int} (h : keyOf2 w = some k) : w = .tup [.int k.1, .int k.2] := by
  unfold keyOf2 at h
  split at h
  · cases h; rfl
  · cases h
theorem pairs_rep : ∀ {ws : List W} {vs : List V}, RepWs K H ws vs → (∀ w ∈ ws, ∃ k, keyOf2 w = some k) → (∀ x ∈ vs, ∃ p, PairV K H x p ∧ ∃ t, x = .ref t ∧ H t = some (.tup [.int p.1, .int p.2])) ∧ ∀ k : V → Int × Int, (∀ x q, PairV K H x q → x ∈ vs → q = k x) → ws.filterMap keyOf2 = vs.map k
  | _, _, .nil, _ => ⟨fun x h => (by cases h), fun k _ => rfl⟩
  | w :: ws, v :: vs, .cons r t, h => by
    obtain ⟨q, hq⟩ := h w List.mem_cons_self
    have pv : PairV K H v q ∧ ∃ t, v = .ref t ∧ H t = some (.tup [.int q.1, .int q.2]) := by
      have e := keyOf2_eq hq
      subst e
      cases r with
      | tup st rs =>
        cases rs with
        | cons r1 rs => cases r1; cases rs with
          | cons r2 rs => cases r2; cases rs; exact ⟨⟨_, rfl, SqT.of st⟩, _, rfl, st⟩
    obtain ⟨h1, h2⟩ := pairs_rep t fun u hu => h u (List.mem_cons_of_mem _ hu)
    refine ⟨fun x hx => ?_, fun k hk => ?_⟩
    · rcases List.mem_cons.mp hx with e | e
      · rw [e]; exact ⟨q, pv⟩
      · exact h1 x e
    · rw [List.filterMap_cons, hq, List.map_cons, hk v q pv.1 List.mem_cons_self, h2 k fun x q p m => hk x q p (List.mem_cons_of_mem _ m)]
theorem rep_pairs (k : V → Int × Int) : ∀ {vs : List V}, (∀ x ∈ vs, ∃ t, x = .ref t ∧ H t = some (.tup [.int (k x).1, .int (k x).2])) → RepWs K H ((vs.map k).map fun p => .tup [.int p.1, .int p.2]) vs
  | [], _ => .nil
  | v :: vs, h => by
    obtain ⟨t, rfl, st⟩ := h v List.mem_cons_self
    exact .cons (.tup st (.cons (.int _) (.cons (.int _) .nil))) (rep_pairs k fun x m => h x (List.mem_cons_of_mem _ m))
theorem sndT_srt {p : Pos} (hc : X.calm = true) (hg : Gl X "sorted") (hm : X.mg "sorted" = none) (h1 : notStar a = true) (ha : PE X a (liftL X.K Wx ml)) :
    SndT X Wx (.Call (.Name "sorted" p) [a] [] pos) (fun σ S Q E => ml σ S (fun xs k _ S1 => k ≠ .tu ∧ srtW xs fun ys => Q ys S1) E) := by
  refine pe_bltT (op := fun xs k _ S Q => k ≠ .tu ∧ srtW xs fun ys => Q ys S) (callOk_b (CallR.or cr_sortedI cr_sortW) hg hm boot_sorted (by decide) (by decide)) h1 ha fun ws k st v σ S Z H Q QV g r h p => ?_
  obtain ⟨q, vs, rfl, r1, r2⟩ := r.now g.st
  obtain ⟨hk, h⟩ := h
  unfold srtW at h
  cases e : intsOf ws with
  | some ns =>
    rw [e] at h
    obtain rfl := intsOf_eq e
    obtain rfl := r1.ints
    exact .inl ⟨q, ns, rfl, r2.sql hk, fun ns' l pm so hl => post_lst p g hl (RepWs.ofInts ns') (h ns' pm so)⟩
  | none =>
    rw [e] at h
    obtain ⟨ex, h⟩ := h
    obtain ⟨h1, h2⟩ := pairs_rep r1 ex
    refine .inr ⟨q, vs, rfl, r2.sql hk, (fun x hx => (h1 x hx).imp fun _ z => z.1), fun ys kf l hk1 hk2 pm so hl => ?_⟩
    refine post_lst p g hl (rep_pairs kf fun x m => ?_) (h _ ?_ so)
    · obtain ⟨q', pv, t, e1, e2⟩ := h1 x (pm.mem_iff.mp m)
      rw [← hk2 x q' pv (pm.mem_iff.mp m)]
      exact ⟨t, e1, e2⟩
    rw [h2 kf hk2]
    exact pm.map kf
theorem sndT_sset {p p2 pos2 : Pos} (hc : X.calm = true) (hg : Gl X "sorted") (hm : X.mg "sorted" = none) (hg2 : Gl X "set") (hm2 : X.mg "set" = none) (h1 : notStar a = true) (ha : PE X a (liftL X.K Wx ml)) :
    SndT X Wx (.Call (.Name "sorted" p) [.Call (.Name "set" p2) [a] [] pos2] [] pos) (fun σ S Q E => ml σ S (fun xs k _ S1 => k ≠ .tu ∧ sSetW xs fun ys => Q ys S1) E) := by
  have inner := callOk_t (r := rSetL X.K X.w) (cr_setL hc) hg2 hm2 boot_set (by decide) (by decide) (p := p2) (pos := pos2) (a := a) (es := []) (by simp [noStars, h1]) (pa_cons ha pa_nil (star_cons h1))
  have outer := callOk_b (r := rSortS X.w) (cr_sortS hc) hg hm boot_sorted (by decide) (by decide) (p := p) (pos := pos) (a := .Call (.Name "set" p2) [a] [] pos2) (es := []) rfl (pa_cons inner pa_nil (star_cons rfl))
  refine ⟨pe_weak outer fun Z H QV ⟨σ, S, Q, E, g, h, ps, px⟩ => ?_, fun _ => rfl, fun ⟨_, _, _, z⟩ => by cases z⟩
  refine ⟨σ, S, _, E, g, h, fun ws k st S1 v H1 q g1 e1 r1 => ?_, px⟩
  obtain ⟨b, vs, rfl, r2, r3⟩ := r1.now g1.st
  obtain ⟨hk, q⟩ := q
  unfold sSetW at q
  cases e : intsOf ws with
  | none => rw [e] at q; exact q.elim
  | some ns =>
    rw [e] at q
    obtain rfl := intsOf_eq e
    obtain rfl := r2.ints
    refine ⟨b, ns, rfl, r3.sql hk, q.1, fun d c hd => ⟨d, _, c, rfl, upd_same, fun ns' l so mem hl => ?_⟩⟩
    have x1 : Ext S1 H1 S1 (upd H1 d (SetO X.w d (fun j => decide (j ∈ ns)) c)) := Ext.fresh hd
    have g2 := g1.next x1 (g1.st.fresh hd)
    exact post_lst (PostT.next ps (e1.trans x1)) g2 hl (RepWs.ofInts ns') (q.2 ns' so fun j => by rw [mem j, decide_eq_true_iff])
end
variable {C : Ctx} {G : Gs}
structure Here (C : Ctx) (G : Gs) (X : Cx) (Wx : WX) (sc : Scope) (tp : Bool) : Prop where
  ok : XOk C G X Wx
  sc : X.env.scope = sc
  fn : tp = true → ∀ x, X.fn x = true
  up : tp = true → X.stack = X.env :: X.outer ∧ X.env.frame = some X.env.locals ∨ C.hot = true
section
variable {X : Cx} {Wx : WX} {sc : Scope} {tp : Bool}
theorem vis_of {x : Str} (h : visB sc x = true) : Vis sc x := by
  unfold visB at h
  unfold Vis
  split at h
  · exact .inl (by assumption)
  · exact .inr (.inl (by assumption))
  · exact .inr (.inr (by assumption))
  · cases h
theorem gl_of (hh : Here C G X Wx sc tp) {x : Str} (h : glB sc x = true) : Gl X x := by
  unfold glB at h
  unfold Gl Env.kindOf
  rw [hh.sc]
  split at h
  · assumption
  · cases h
theorem loc_of (hh : Here C G X Wx sc tp) {x : Str} (h : stoB tp sc x = true) : Loc X.env.scope x ∧ (X.fn x = true ∨ X.env.scope.names.lookup x = some .local) := by
  unfold stoB at h
  unfold L2.Loc
  rw [hh.sc]
  split at h
  · rename_i e; exact ⟨.inl e, .inr e⟩
  · rename_i e; exact ⟨.inr e, .inl (hh.fn h x)⟩
  · cases h
theorem relS_cell {scope sc : Scope} {x : Str} (h : scope.names.lookup x = some NameKind.cell) : (relS scope sc).names.lookup x = some NameKind.cell := by
  unfold relS
  dsimp only
  generalize scope.names = l at h
  induction l with
  | nil => cases h
  | cons p l ih =>
    obtain ⟨n, k⟩ := p
    rw [List.map_cons]
    by_cases e : x == n
    · rw [List.lookup_cons, e] at h
      cases h
      dsimp only
      rw [if_neg (by simp), List.lookup_cons, e]
    · rw [List.lookup_cons, Bool.eq_false_iff.mpr e] at h
      have ih := ih h
      dsimp only
      split <;> rw [List.lookup_cons, Bool.eq_false_iff.mpr e] <;> exact ih
theorem callNm_of {x : Str} {e : Expr} {args : List Expr} (h : callNm sc x e = some args) : ∃ p pos, e = .Call (.Name x p) args [] pos ∧ glB sc x = true ∧ plainNm x = true := by
  unfold callNm at h
  split at h
  · split at h
    · rename_i y p args' pos hc
      cases h
      simp only [Bool.and_eq_true, decide_eq_true_eq] at hc
      obtain ⟨⟨rfl, h2⟩, h3⟩ := hc
      exact ⟨_, _, rfl, h2, h3⟩
    · cases h
  · cases h
theorem Here.m (hh : Here C G X Wx sc tp) {x : Str} (h : x ∈ bltNames) : X.mg x = none := hh.ok.blt x h
theorem Here.hN (hh : Here C G X Wx sc tp) {i : Nat} {x : Str} (h : C.N[i]? = some x) : X.N[i]? = some x := by rw [hh.ok.N]; exact h
theorem Here.blk (hh : Here C G X Wx sc tp) (hhot : C.hot = false) (s : Shared) (H : Hp) (scope : Scope) (Cc : Addr) (cl : List (Str × Addr)) (fp : List Addr) : Here C G (X.blk s H scope (compEnvC scope cl Cc X.env) fp) noW (relS scope sc) false where
  ok := {
    N := hh.ok.N
    calm := hh.ok.calm
    nd := hh.ok.nd
    un := hh.ok.un
    room := hh.ok.room
    hxs := fun h => by rw [hhot] at h; cases h
    mth := hh.ok.mth
    mks := hh.ok.mks
    fld := hh.ok.fld
    exc := fun c x h => let e := hh.ok.exc c x h; ⟨e.glo, e.xin, e.kp, e.bs, e.ty, e.exc, e.ve⟩
    exm := hh.ok.exm
    exs := hh.ok.exs
    gls := hh.ok.gls
    glt := hh.ok.glt
    icl := hh.ok.icl
    hx0 := hh.ok.hx0
    hx := fun a n h => by rw [hh.ok.hx0 hhot] at h; cases h
    takes := fun _ _ x => by
      obtain ⟨_, _, _, _, _, _, _, _, _, _, _, _, _, _, _, _, z⟩ := x
      exact z.elim
    po := PassesOwn.never
    fns := hh.ok.fns
    blt := hh.ok.blt }
  sc := by rw [← hh.sc]; rfl
  fn := fun z => by cases z
  up := fun z => by cases z
end
theorem isxT_pa {C : Ctx} {G : Gs} {X : Cx} {Wx : WX} {sc : Scope} {tp : Bool} {n : Nat} {xn : Str} (hh : Here C G X Wx sc tp) (hxn : (n, xn) ∈ C.exc) : ∀ {cs : List Nat} {ys : List Expr}, isxTB C sc cs ys = true →
    PA X ys (tAs (cs.map fun c => V.ref (G.cl c))) ∧ Paired ClsV (cs.map fun c => V.ref (G.cl c)) (cs.map fun c => Value.ref (G.cl c)) ∧ PySem.W.kitAny X.K (.ref (G.cl n)) (cs.map fun c => Value.ref (G.cl c)) = some (cs.any fun c => subX n c) ∧ cs.length = ys.length
  | [], [], _ => ⟨pa_nil, .nil, rfl, rfl⟩
  | c :: cs, .Name y _ :: r, h => by
    simp only [isxTB, Bool.and_eq_true, List.contains_eq_mem, decide_eq_true_eq] at h
    obtain ⟨⟨⟨h1, h2⟩, h3⟩, h4⟩ := h
    obtain ⟨a, b, e, l⟩ := isxT_pa hh hxn h4
    have F := hh.ok.exc c y h1
    refine ⟨pa_cons (pe_glob (v := .ref (G.cl c)) (gl_of hh h2) F.glo rfl (plain_dbg h3)) a (star_cons rfl), .cons (.own _) b, ?_, by rw [List.length_cons, List.length_cons, l]⟩
    rw [List.map_cons, List.any_cons]
    unfold PySem.W.kitAny
    rw [(hh.ok.exm n xn c y hxn h1).2]
    cases subX n c with
    | true => rfl
    | false => exact e
  | [], _ :: _, h => by simp [isxTB] at h
  | _ :: _, [], h => by simp [isxTB] at h
theorem ownCell_pg {scope sc0 : Scope} {g : IG} {tg : Expr} (hh : Here C G X Wx (relS scope sc0) false) (hf : ∀ y, scope.names.lookup y = some NameKind.cell → X.fn y = true) (h : ownCell C g scope tg = true) : PG X tg (liftG X.K (gSlots g) (wpG G g)) := by
  unfold ownCell at h
  split at h
  · simp only [Bool.and_eq_true, decide_eq_true_eq, beq_iff_eq] at h
    rw [wpG, gSlots]
    exact pg_nmL hh.ok.nd (hh.hN h.1) (by rw [hh.sc]; exact .inr (relS_cell h.2)) (.inl (hf _ h.2))
  · cases h
mutual
theorem soundE : ∀ (ir : IE) {X : Cx} {Wx : WX} {sc : Scope} {tp : Bool} {e : Expr}, Here C G X Wx sc tp → chkE C ir sc tp e = true → Snd X Wx e (wpE G ir)
  | .var i, X, Wx, sc, tp, e, hh, h => by
    rw [wpE]
    cases e <;> first | (simp [chkE] at h; done) | skip
    simp only [chkE, nmB, Bool.and_eq_true, decide_eq_true_eq] at h
    exact snd_var (hh.hN h.1.1) (by rw [hh.sc]; exact vis_of h.1.2) h.2
  | .cst w, X, Wx, sc, tp, e, hh, h => by
    rw [wpE]
    exact snd_cst h
  | .bin op a b, X, Wx, sc, tp, e, hh, h => by
    rw [wpE]
    cases e <;> first | (simp [chkE] at h; done) | skip
    simp only [chkE, Bool.and_eq_true] at h
    exact snd_bin h.1.1 (soundE a hh h.1.2).v (soundE b hh h.2).v
  | .neg a, X, Wx, sc, tp, e, hh, h => by
    rw [wpE]
    cases e <;> first | (simp [chkE] at h; done) | skip
    rename_i op x pos
    cases op <;> first | (simp [chkE] at h; done) | skip
    simp only [chkE] at h
    exact snd_neg (soundE a hh h).v
  | .cmp op a b, X, Wx, sc, tp, e, hh, h => by
    rw [wpE]
    unfold chkE at h
    split at h
    · simp only [Bool.and_eq_true] at h
      exact snd_cmp h.1.1 hh.ok.hu (soundE a hh h.1.2).v (soundE b hh h.2).v
    · cases h
  | .chn o p a b c, X, Wx, sc, tp, e, hh, h => by
    rw [wpE]
    unfold chkE at h
    split at h
    · simp only [Bool.and_eq_true] at h
      exact snd_chn h.1.1.1.1 h.1.1.1.2 hh.ok.hu (soundE a hh h.1.1.2).v (soundE b hh h.1.2).v (soundE c hh h.2).v
    · cases h
  | .isN k a, X, Wx, sc, tp, e, hh, h => by
    rw [wpE]
    unfold chkE at h
    split at h
    · simp only [Bool.and_eq_true] at h
      exact snd_isN h.1 (soundE a hh h.2).v
    · cases h
  | .isB k a b, X, Wx, sc, tp, e, hh, h => by
    rw [wpE]
    unfold chkE at h
    split at h
    · simp only [Bool.and_eq_true, beq_iff_eq] at h
      have e := h.1.2
      subst e
      exact snd_isB h.1.1 (soundE a hh h.2).v
    · cases h
  | .inn k a b, X, Wx, sc, tp, e, hh, h => by
    rw [wpE]
    unfold chkE at h
    split at h
    · simp only [Bool.and_eq_true] at h
      exact snd_inn (by have := hh.ok.hu; omega) h.1.1.1 h.1.1.2 (soundE a hh h.1.2).v (soundE b hh h.2).v
    · cases h
  | .and a b, X, Wx, sc, tp, e, hh, h => by
    rw [wpE]
    unfold chkE at h
    split at h
    · rename_i x y rest pos
      simp only [Bool.and_eq_true] at h
      have ha := soundE a hh h.1
      have h2 := h.2
      split at h2
      · have hb := soundE b hh h2
        exact snd_and (p2 := pos) ha hb.one.1 hb.one.2
      · have hb := soundE b hh h2
        exact snd_and (p2 := pos) ha hb.v (hb.w ⟨_, _, _, rfl⟩)
    · cases h
  | .or a b, X, Wx, sc, tp, e, hh, h => by
    rw [wpE]
    unfold chkE at h
    split at h
    · rename_i x y rest pos
      simp only [Bool.and_eq_true] at h
      have ha := soundE a hh h.1
      have h2 := h.2
      split at h2
      · have hb := soundE b hh h2
        exact snd_or (p2 := pos) ha hb.one.1 hb.one.2
      · have hb := soundE b hh h2
        exact snd_or (p2 := pos) ha hb.v (hb.w ⟨_, _, _, rfl⟩)
    · cases h
  | .not a, X, Wx, sc, tp, e, hh, h => by
    rw [wpE]
    unfold chkE at h
    split at h
    · exact snd_not (soundE a hh h)
    · cases h
  | .ite c a b, X, Wx, sc, tp, e, hh, h => by
    rw [wpE]
    unfold chkE at h
    split at h
    · simp only [Bool.and_eq_true] at h
      exact snd_ite (soundE c hh h.1.1) (soundE a hh h.1.2) (soundE b hh h.2)
    · cases h
  | .tup es, X, Wx, sc, tp, e, hh, h => by
    rw [wpE]
    unfold chkE at h
    split at h
    · exact snd_tup (soundEs es hh h).1
    · cases h
  | .idx a i, X, Wx, sc, tp, e, hh, h => by
    rw [wpE]
    unfold chkE at h
    split at h
    · simp only [Bool.and_eq_true] at h
      exact snd_idx (by have := hh.ok.hu; omega) h.1.1 (soundE a hh h.1.2).v (soundE i hh h.2).v
    · cases h
  | .slc a lo hi, X, Wx, sc, tp, e, hh, h => by
    rw [wpE]
    unfold chkE at h
    split at h
    · simp only [Bool.and_eq_true] at h
      exact snd_slc (soundE a hh h.1.1).v (soundO lo hh h.1.2) (soundO hi hh h.2)
    · cases h
  | .call f es, X, Wx, sc, tp, e, hh, h => by
    rw [wpE]
    unfold chkE at h
    split at h
    · rename_i x hx
      split at h
      · rename_i args hc
        obtain ⟨p, pos, rfl, hg, hpl⟩ := callNm_of hc
        simp only [Bool.and_eq_true, Bool.not_eq_true'] at h
        obtain ⟨h, hot⟩ := h
        obtain ⟨k, fa, fd, ps, F, hr, hm, hk, hb⟩ := hh.ok.fns f x hx hot
        obtain ⟨hs, hns⟩ := soundEs es hh h
        cases es with
        | nil =>
          cases args with
          | nil => exact snd_call0 F hr hm hk hb hh.ok.takes (gl_of hh hg) hpl
          | cons _ _ => simp [chkEs] at h
        | cons e1 er =>
          cases args with
          | nil => simp [chkEs] at h
          | cons a1 ar => exact snd_call F hr hm hk hb hh.ok.takes (gl_of hh hg) hpl hns hs
      · cases h
    · cases h
  | .isa a t, X, Wx, sc, tp, e, hh, h => by
    rw [wpE]
    unfold chkE at h
    split at h
    · rename_i x y p hc
      obtain ⟨p, pos, rfl, hg, hpl⟩ := callNm_of hc
      simp only [Bool.and_eq_true] at h
      obtain ⟨t1, t2, t3, t4, t5⟩ := isaT_of h.1.1.2
      exact snd_isa (gl_of hh hg) (hh.m (by decide)) (gl_of hh h.1.1.1.1) (hh.m t4) h.1.1.2 h.1.2 (soundE a hh h.2).v
    · cases h
  | .mx a b, X, Wx, sc, tp, e, hh, h => by
    rw [wpE]
    unfold chkE at h
    split at h
    · rename_i x y hc
      obtain ⟨p, pos, rfl, hg, hpl⟩ := callNm_of hc
      simp only [Bool.and_eq_true, Bool.not_eq_true'] at h
      obtain ⟨h, hot⟩ := h
      exact snd_mx (hh.ok.calm hot) (gl_of hh hg) (hh.m (by decide)) h.1.2 h.2 (soundE a hh h.1.1.1).v (soundE b hh h.1.1.2).v
    · cases h
  | .mn a b, X, Wx, sc, tp, e, hh, h => by
    rw [wpE]
    unfold chkE at h
    split at h
    · rename_i x y hc
      obtain ⟨p, pos, rfl, hg, hpl⟩ := callNm_of hc
      simp only [Bool.and_eq_true, Bool.not_eq_true'] at h
      obtain ⟨h, hot⟩ := h
      exact snd_mn (hh.ok.calm hot) (gl_of hh hg) (hh.m (by decide)) h.1.2 h.2 (soundE a hh h.1.1.1).v (soundE b hh h.1.1.2).v
    · cases h
  | .len a, X, Wx, sc, tp, e, hh, h => by
    rw [wpE]
    unfold chkE at h
    split at h
    · rename_i x hc
      obtain ⟨p, pos, rfl, hg, hpl⟩ := callNm_of hc
      simp only [Bool.and_eq_true] at h
      exact snd_len (gl_of hh hg) (hh.m (by decide)) h.2 (soundE a hh h.1).v
    · cases h
  | .mat t, X, Wx, sc, tp, e, hh, h => by
    rw [wpE]
    exact snd_mat (soundT t hh h).t
  | .tupl l, X, Wx, sc, tp, e, hh, h => by
    rw [wpE]
    unfold chkE at h
    split at h
    · rename_i x hc
      obtain ⟨p, pos, rfl, hg, hpl⟩ := callNm_of hc
      simp only [Bool.and_eq_true] at h
      exact snd_tupl (gl_of hh hg) (hh.m (by decide)) h.2 (soundL l hh h.1)
    · cases h
  | .sum l, X, Wx, sc, tp, e, hh, h => by
    rw [wpE]
    unfold chkE at h
    split at h
    · rename_i x hc
      obtain ⟨p, pos, rfl, hg, hpl⟩ := callNm_of hc
      simp only [Bool.and_eq_true, Bool.not_eq_true'] at h
      obtain ⟨h, hot⟩ := h
      exact snd_sum (hh.ok.calm hot) (gl_of hh hg) (hh.m (by decide)) h.2 (soundL l hh h.1)
    · cases h
  | .any l, X, Wx, sc, tp, e, hh, h => by
    rw [wpE]
    unfold chkE at h
    split at h
    · rename_i x hc
      obtain ⟨p, pos, rfl, hg, hpl⟩ := callNm_of hc
      simp only [Bool.and_eq_true, Bool.not_eq_true'] at h
      obtain ⟨h, hot⟩ := h
      exact snd_any (hh.ok.calm hot) (gl_of hh hg) (hh.m (by decide)) h.2 (soundL l hh h.1)
    · cases h
  | .all l, X, Wx, sc, tp, e, hh, h => by
    rw [wpE]
    unfold chkE at h
    split at h
    · rename_i x hc
      obtain ⟨p, pos, rfl, hg, hpl⟩ := callNm_of hc
      simp only [Bool.and_eq_true, Bool.not_eq_true'] at h
      obtain ⟨h, hot⟩ := h
      exact snd_all (hh.ok.calm hot) (gl_of hh hg) (hh.m (by decide)) h.2 (soundL l hh h.1)
    · cases h
  | .max1 l, X, Wx, sc, tp, e, hh, h => by
    rw [wpE]
    unfold chkE at h
    split at h
    · rename_i x hc
      obtain ⟨p, pos, rfl, hg, hpl⟩ := callNm_of hc
      simp only [Bool.and_eq_true, Bool.not_eq_true'] at h
      obtain ⟨h, hot⟩ := h
      exact snd_max1 (hh.ok.calm hot) (gl_of hh hg) (hh.m (by decide)) h.2 (soundL l hh h.1)
    · cases h
  | .min1 l, X, Wx, sc, tp, e, hh, h => by
    rw [wpE]
    unfold chkE at h
    split at h
    · rename_i x hc
      obtain ⟨p, pos, rfl, hg, hpl⟩ := callNm_of hc
      simp only [Bool.and_eq_true, Bool.not_eq_true'] at h
      obtain ⟨h, hot⟩ := h
      exact snd_min1 (hh.ok.calm hot) (gl_of hh hg) (hh.m (by decide)) h.2 (soundL l hh h.1)
    · cases h
  | .idl l i, X, Wx, sc, tp, e, hh, h => by
    rw [wpE]
    unfold chkE at h
    split at h
    · simp only [Bool.and_eq_true] at h
      exact snd_idl h.1.1 (soundL l hh h.1.2) (soundE i hh h.2).v
    · cases h
  | .eql k a b, X, Wx, sc, tp, e, hh, h => by
    rw [wpE]
    unfold chkE at h
    split at h
    · simp only [Bool.and_eq_true] at h
      exact snd_eql h.1.1 hh.ok.hu (soundL a hh h.1.2) (soundL b hh h.2)
    · cases h
  | .app o x, X, Wx, sc, tp, e, hh, h => by
    rw [wpE]
    unfold chkE at h
    split at h
    · rename_i hc
      obtain ⟨ap, pos, rfl, hb0, hl⟩ := callMt_of hc
      simp only [Bool.and_eq_true] at h
      exact snd_app hl h.2 hb0 (soundE o hh h.1.1).v (soundE x hh h.1.2).v
    · cases h
  | .ext o l, X, Wx, sc, tp, e, hh, h => by
    rw [wpE]
    unfold chkE at h
    split at h
    · rename_i hc
      obtain ⟨ap, pos, rfl, hb0, hl⟩ := callMt_of hc
      simp only [Bool.and_eq_true] at h
      exact snd_ext hl h.2 hb0 (soundE o hh h.1.1).v (soundL l hh h.1.2)
    · cases h
  | .pop0 o, X, Wx, sc, tp, e, hh, h => by
    rw [wpE]
    unfold chkE at h
    split at h
    · rename_i hc
      obtain ⟨ap, pos, rfl, hb0, hl⟩ := callMt_of hc
      exact snd_pop0 hl hb0 (soundE o hh h).v
    · cases h
  | .pop1 o i, X, Wx, sc, tp, e, hh, h => by
    rw [wpE]
    unfold chkE at h
    split at h
    · rename_i hc
      obtain ⟨ap, pos, rfl, hb0, hl⟩ := callMt_of hc
      simp only [Bool.and_eq_true] at h
      exact snd_pop1 hl h.2 hb0 (soundE o hh h.1.1).v (soundE i hh h.1.2).v
    · cases h
  | .fld c o f, X, Wx, sc, tp, e, hh, h => by
    rw [wpE]
    unfold chkE at h
    split at h
    · simp only [Bool.and_eq_true, decide_eq_true_eq, List.contains_eq_mem] at h
      obtain ⟨⟨⟨rfl, h1⟩, h2⟩, h3⟩ := h
      obtain ⟨hc, hn⟩ := hh.ok.fld c _ h2
      exact snd_fld h1 hc hn (soundE o hh h3).v
    · cases h
  | .meth f c m o es, X, Wx, sc, tp, e, hh, h => by
    rw [wpE]
    unfold chkE at h
    split at h
    · simp only [Bool.and_eq_true, decide_eq_true_eq, List.contains_eq_mem, Bool.not_eq_true'] at h
      obtain ⟨⟨⟨⟨⟨⟨⟨rfl, h1⟩, h2⟩, h3⟩, h4⟩, hot⟩, h5⟩, h6⟩ := h
      obtain ⟨k, fa, fd, ps, F, hr, hc, hm, hb⟩ := hh.ok.mth f c _ h4 hot
      obtain ⟨hs, hns⟩ := soundEs es hh h6
      rename_i args _
      cases es with
      | nil =>
        cases args with
        | nil =>
          rw [wpEs] at *
          exact snd_meth0 h1 hc hm F hr hb hh.ok.takes h2 (soundE o hh h5).v
        | cons _ _ => simp [chkEs] at h6
      | cons e1 er =>
        cases args with
        | nil => simp [chkEs] at h6
        | cons a1 ar => exact snd_meth h1 hc hm F hr hb hh.ok.takes hns h3 h2 (soundE o hh h5).v hs
    · cases h
  | .make f c es, X, Wx, sc, tp, e, hh, h => by
    rw [wpE]
    unfold chkE at h
    split at h
    · simp only [Bool.and_eq_true, List.contains_eq_mem, decide_eq_true_eq, Bool.not_eq_true'] at h
      obtain ⟨⟨⟨⟨h1, hot⟩, h2⟩, h3⟩, h6⟩ := h
      obtain ⟨k, fa, fd, ps, F, hr, M, hm, hb⟩ := hh.ok.mks f c _ h1 hot
      obtain ⟨hs, hns⟩ := soundEs es hh h6
      rename_i args _
      cases es with
      | nil =>
        cases args with
        | nil =>
          rw [wpEs] at *
          exact snd_make0 M F hr (gl_of hh h2) hm hb hh.ok.takes h3
        | cons _ _ => simp [chkEs] at h6
      | cons e1 er =>
        cases args with
        | nil => simp [chkEs] at h6
        | cons a1 ar => exact snd_make M F hr (gl_of hh h2) hm hb hh.ok.takes h3 hns hs
    · cases h
  | .glb x k, X, Wx, sc, tp, e, hh, h => by
    rw [wpE]
    unfold chkE at h
    split at h
    · simp only [Bool.and_eq_true, decide_eq_true_eq, List.any_eq_true] at h
      obtain ⟨⟨⟨rfl, q, h1, rfl⟩, h2⟩, h3⟩ := h
      obtain ⟨u, hm, r⟩ := hh.ok.gls _ k h1
      exact snd_glb (gl_of hh h2) hm r h3
    · cases h
  | .isx o c, X, Wx, sc, tp, e, hh, h => by
    rw [wpE]
    unfold chkE at h
    split at h
    · rename_i x y p2 hc
      obtain ⟨p, pos, rfl, hg, hpl⟩ := callNm_of hc
      simp only [Bool.and_eq_true] at h
      obtain ⟨⟨⟨⟨h1, h2⟩, h3⟩, h4⟩, h5⟩ := h
      cases eh : G.hx with
      | none => exact snd_isx0 (gl_of hh hg) (hh.m (by decide)) h4 rfl (soundE o hh h5).v
      | some an =>
        obtain ⟨ad, n⟩ := an
        obtain ⟨⟨xn, hxn⟩, hr, _⟩ := hh.ok.hx ad n eh
        cases c with
        | some d =>
          simp only [List.contains_eq_mem, decide_eq_true_eq] at h1
          have F := hh.ok.exc d y h1
          exact snd_isx hr (gl_of hh hg) (hh.m (by decide)) (pe_glob (v := .ref (G.cl d)) (gl_of hh h2) F.glo rfl (plain_dbg h3)) (fun u r => r) (hh.ok.exm n xn d y hxn h1).2 h4 (soundE o hh h5).v
        | none =>
          simp only [decide_eq_true_eq] at h1
          subst h1
          have F := hh.ok.exc n xn hxn
          exact snd_isx hr (gl_of hh hg) (hh.m (by decide)) (pe_bltn (v := .ty "ValueError") (gl_of hh h2) (hh.m (by decide)) (by decide +kernel) rfl (by decide) (plain_dbg h3)) (fun u r => r) F.ve h4 (soundE o hh h5).v
    · cases h
  | .isC o n, X, Wx, sc, tp, e, hh, h => by
    rw [wpE]
    unfold chkE at h
    split at h
    · rename_i x y p2 hc
      obtain ⟨p, pos, rfl, hg, hpl⟩ := callNm_of hc
      simp only [Bool.and_eq_true] at h
      obtain ⟨⟨⟨⟨h1, h2⟩, h3⟩, h4⟩, h5⟩ := h
      simp only [List.contains_eq_mem, decide_eq_true_eq] at h1
      obtain ⟨c, e⟩ := hh.ok.icl n y h1
      exact snd_isC c (gl_of hh hg) (hh.m (by decide)) (pe_glob (v := .ref (G.cl n)) (gl_of hh h2) e rfl (plain_dbg h3)) h4 (soundE o hh h5).v
    · cases h
  | .isxT o cs, X, Wx, sc, tp, e, hh, h => by
    rw [wpE]
    unfold chkE at h
    split at h
    · rename_i x ys k p2 hc
      obtain ⟨p, pos, rfl, hg, hpl⟩ := callNm_of hc
      simp only [Bool.and_eq_true] at h
      obtain ⟨⟨⟨h1, h4⟩, h6⟩, h5⟩ := h
      cases eh : G.hx with
      | none => exact snd_isx0 (gl_of hh hg) (hh.m (by decide)) h4 rfl (soundE o hh h5).v
      | some an =>
        obtain ⟨ad, n⟩ := an
        obtain ⟨⟨xn, hxn⟩, _, hr⟩ := hh.ok.hx ad n eh
        obtain ⟨hp, hcl, hk, hlen⟩ := isxT_pa hh hxn h1
        exact snd_isxT hr (gl_of hh hg) (hh.m (by decide)) hp (by rw [List.length_map, hlen, sizeLine_eq]; have := of_decide_eq_true h6; omega) hcl hk h4 (soundE o hh h5).v
    · cases h
  | .join s l, X, Wx, sc, tp, e, hh, h => by
    rw [wpE]
    unfold chkE at h
    split at h
    · rename_i hc
      obtain ⟨ap, pos, rfl, hb0, hl⟩ := callMt_of hc
      simp only [Bool.and_eq_true] at h
      exact snd_join hl h.2 hb0 (soundE s hh h.1.1).v (soundL l hh h.1.2)
    · cases h
  | .eqE a b, X, Wx, sc, tp, e, hh, h => by
    rw [wpE]
    unfold chkE at h
    split at h
    · simp only [Bool.and_eq_true] at h
      exact snd_eqE hh.ok.hu (soundE a hh h.1).v (soundE b hh h.2).v
    · cases h
  | .revT a, X, Wx, sc, tp, e, hh, h => by
    rw [wpE]
    unfold chkE at h
    split at h
    · rename_i o x p3 pos
      simp only [Bool.and_eq_true] at h
      have h1 := h.1
      unfold isN1 at h1
      split at h1
      · rename_i i k p1 p2
        have e := of_decide_eq_true h1
        subst e
        exact snd_revT (soundE a hh h.2).v
      · cases h1
    · cases h
  | .joinT s a, X, Wx, sc, tp, e, hh, h => by
    rw [wpE]
    unfold chkE at h
    split at h
    · rename_i hc
      obtain ⟨ap, pos, rfl, hb0, hl⟩ := callMt_of hc
      simp only [Bool.and_eq_true, Bool.not_eq_true'] at h
      exact snd_joinT (hh.ok.calm h.2) hl h.1.2 hb0 (soundE s hh h.1.1.1).v (soundE a hh h.1.1.2).v
    · cases h
  | .strI a, X, Wx, sc, tp, e, hh, h => by
    rw [wpE]
    unfold chkE at h
    split at h
    · rename_i x hc
      obtain ⟨p, pos, rfl, hg, hpl⟩ := callNm_of hc
      simp only [Bool.and_eq_true] at h
      exact snd_strI (gl_of hh hg) (hh.m (by decide)) h.2 (soundE a hh h.1).v
    · cases h
  | .intE a, X, Wx, sc, tp, e, hh, h => by
    rw [wpE]
    unfold chkE at h
    split at h
    · rename_i x hc
      obtain ⟨p, pos, rfl, hg, hpl⟩ := callNm_of hc
      simp only [Bool.and_eq_true] at h
      exact snd_intE (gl_of hh hg) (hh.m (by decide)) h.2 (soundE a hh h.1).v
    · cases h
  | .absI a, X, Wx, sc, tp, e, hh, h => by
    rw [wpE]
    unfold chkE at h
    split at h
    · rename_i x hc
      obtain ⟨p, pos, rfl, hg, hpl⟩ := callNm_of hc
      simp only [Bool.and_eq_true] at h
      exact snd_absI (gl_of hh hg) (hh.m (by decide)) h.2 (soundE a hh h.1).v
    · cases h
  | .ins o i x, X, Wx, sc, tp, e, hh, h => by
    rw [wpE]
    unfold chkE at h
    split at h
    · rename_i hc
      obtain ⟨ap, pos, rfl, hb0, hl⟩ := callMt_of hc
      simp only [Bool.and_eq_true] at h
      exact snd_ins hl h.1.1.2 h.2 hb0 (soundE o hh h.1.1.1.1).v (soundE i hh h.1.1.1.2).v (soundE x hh h.1.2).v
    · cases h
  | .rem o x, X, Wx, sc, tp, e, hh, h => by
    rw [wpE]
    unfold chkE at h
    split at h
    · rename_i hc
      obtain ⟨ap, pos, rfl, hb0, hl⟩ := callMt_of hc
      simp only [Bool.and_eq_true] at h
      exact snd_rem hl h.2 hb0 (soundE o hh h.1.1).v (soundE x hh h.1.2).v
    · cases h
  | .ixo o x, X, Wx, sc, tp, e, hh, h => by
    rw [wpE]
    unfold chkE at h
    split at h
    · rename_i hc
      obtain ⟨ap, pos, rfl, hb0, hl⟩ := callMt_of hc
      simp only [Bool.and_eq_true] at h
      exact snd_ixo hl h.2 hb0 (soundE o hh h.1.1).v (soundE x hh h.1.2).v
    · cases h
  | .revm o, X, Wx, sc, tp, e, hh, h => by
    rw [wpE]
    unfold chkE at h
    split at h
    · rename_i hc
      obtain ⟨ap, pos, rfl, hb0, hl⟩ := callMt_of hc
      exact snd_revm hl hb0 (soundE o hh h).v
    · cases h
  | .clr o, X, Wx, sc, tp, e, hh, h => by
    rw [wpE]
    unfold chkE at h
    split at h
    · rename_i hc
      obtain ⟨ap, pos, rfl, hb0, hl⟩ := callMt_of hc
      exact snd_clr hl hb0 (soundE o hh h).v
    · cases h
  | .dnew t, X, Wx, sc, tp, e, hh, h => by
    rw [wpE]
    unfold chkE at h
    split at h
    · exact snd_dnew
    · cases h
  | .dnewN, X, Wx, sc, tp, e, hh, h => by
    rw [wpE]
    unfold chkE at h
    split at h
    · exact snd_dnewN
    · cases h
  | .dem k a, X, Wx, sc, tp, e, hh, h => by
    rw [wpE]
    unfold chkE at h
    split at h
    · simp only [Bool.and_eq_true] at h
      exact snd_dem h.1 hh.ok.hu (soundE a hh h.2).v
    · cases h
  | .dget d k x, X, Wx, sc, tp, e, hh, h => by
    rw [wpE]
    unfold chkE at h
    split at h
    · rename_i hc
      obtain ⟨ap, pos, rfl, hb0, hl⟩ := callMt_of hc
      simp only [Bool.and_eq_true] at h
      exact snd_dget (by have := hh.ok.hu; omega) hl h.1.1.2 h.2 hb0 (soundE d hh h.1.1.1.1).v (soundE k hh h.1.1.1.2).v (soundE x hh h.1.2).v
    · cases h
  | .deq k a b, X, Wx, sc, tp, e, hh, h => by
    rw [wpE]
    unfold chkE at h
    split at h
    · simp only [Bool.and_eq_true] at h
      exact snd_deq h.1.1 hh.ok.hu (soundE a hh h.1.2).v (soundE b hh h.2).v
    · cases h
  | .ddsp ks es, X, Wx, sc, tp, e, hh, h => by
    rw [wpE]
    unfold chkE at h
    split at h
    · simp only [Bool.and_eq_true, decide_eq_true_eq] at h
      obtain ⟨⟨⟨h1, h2⟩, h3⟩, h4⟩ := h
      obtain ⟨k1, k2⟩ := keysB_len h1
      obtain ⟨trs, p1, p2⟩ := soundPs es ks hh h1 (by simpa using h3) h4
      exact snd_ddsp p1 p2 k2 (by simpa using h3) (by simp) (by rw [List.length_cons]; omega) k1
    · cases h
  | .setd d k x, X, Wx, sc, tp, e, hh, h => by
    rw [wpE]
    unfold chkE at h
    split at h
    · rename_i hc
      obtain ⟨ap, pos, rfl, hb0, hl⟩ := callMt_of hc
      simp only [Bool.and_eq_true] at h
      exact snd_setd (by have := hh.ok.hu; omega) hl h.1.1.2 h.2 hb0 (soundE d hh h.1.1.1.1).v (soundE k hh h.1.1.1.2).v (soundE x hh h.1.2).v
    · cases h
  | .dpop d k, X, Wx, sc, tp, e, hh, h => by
    rw [wpE]
    unfold chkE at h
    split at h
    · rename_i hc
      obtain ⟨ap, pos, rfl, hb0, hl⟩ := callMt_of hc
      simp only [Bool.and_eq_true] at h
      exact snd_dpop hl h.2 hb0 (soundE d hh h.1.1).v (soundE k hh h.1.2).v
    · cases h
theorem soundEs : ∀ (ir : IEs) {X : Cx} {Wx : WX} {sc : Scope} {tp : Bool} {es : List Expr}, Here C G X Wx sc tp → chkEs C ir sc tp es = true → PA X es (liftA X.K Wx (wpEs G ir)) ∧ noStars es = true
  | .nil, X, Wx, sc, tp, es, hh, h => by
    rw [wpEs]
    cases es with
    | nil => exact ⟨pa_nilL, rfl⟩
    | cons _ _ => simp [chkEs] at h
  | .cons a r, X, Wx, sc, tp, es, hh, h => by
    rw [wpEs]
    cases es with
    | nil => simp [chkEs] at h
    | cons e t =>
      simp only [chkEs, Bool.and_eq_true] at h
      obtain ⟨h1, h2⟩ := soundEs r hh h.2
      exact ⟨pa_consL h.1.1 (soundE a hh h.1.2).v h1, by simp only [noStars, List.all_cons, h.1.1, Bool.true_and]; exact h2⟩
theorem soundPs : ∀ (ir : IEs) (ks : List Key) {X : Cx} {Wx : WX} {sc : Scope} {tp : Bool} {pos : Pos} {keys : List (Option Expr)} {vals : List Expr}, Here C G X Wx sc tp → keysB ks keys = true → keys.length = vals.length → chkEs C ir sc tp vals = true → ∃ trs, PPs X pos keys vals trs ∧ PsOk X Wx ks trs (wpEs G ir)
  | .nil, ks, X, Wx, sc, tp, pos, keys, vals, hh, hk, hn, h => by
    rw [wpEs]
    cases vals with
    | cons _ _ => simp [chkEs] at h
    | nil =>
      cases keys with
      | cons _ _ => cases hn
      | nil =>
        cases ks with
        | nil => exact ⟨[], pps_nil, psOk_nil⟩
        | cons k r => cases (keysB_len hk).1
  | .cons a r, ks, X, Wx, sc, tp, pos, keys, vals, hh, hk, hn, h => by
    rw [wpEs]
    cases vals with
    | nil => simp [chkEs] at h
    | cons e t =>
      simp only [chkEs, Bool.and_eq_true] at h
      unfold keysB at hk
      split at hk
      · cases hn
      · simp only [Bool.and_eq_true, decide_eq_true_eq] at hk
        obtain ⟨rfl, hk⟩ := hk
        obtain ⟨trs, p1, p2⟩ := soundPs r _ (pos := pos) hh hk (by simpa using hn) h.2
        exact ⟨_, pps_cons pe_int (soundE a hh h.1.2).v p1, psOk_cons (k := .inl _) p2⟩
      · simp only [Bool.and_eq_true, decide_eq_true_eq] at hk
        obtain ⟨rfl, hk⟩ := hk
        obtain ⟨trs, p1, p2⟩ := soundPs r _ (pos := pos) hh hk (by simpa using hn) h.2
        exact ⟨_, pps_cons pe_str (soundE a hh h.1.2).v p1, psOk_cons (k := .inr _) p2⟩
      · cases hk
theorem soundO : ∀ (ir : IO) {X : Cx} {Wx : WX} {sc : Scope} {tp : Bool} {e : Option Expr}, Here C G X Wx sc tp → chkO C ir sc tp e = true → PO X e (liftO X.K Wx (wpO G ir))
  | .none, X, Wx, sc, tp, e, hh, h => by
    rw [wpO]
    cases e with
    | none => exact po_noneL
    | some _ => simp [chkO] at h
  | .some a, X, Wx, sc, tp, e, hh, h => by
    rw [wpO]
    cases e with
    | none => simp [chkO] at h
    | some x => exact po_someL (soundE a hh (by simpa [chkO] using h)).v
theorem soundT : ∀ (ir : IT) {X : Cx} {Wx : WX} {sc : Scope} {tp : Bool} {e : Expr}, Here C G X Wx sc tp → chkT C ir sc tp e = true → SndU X Wx e (wpT G ir)
  | .dsp es, X, Wx, sc, tp, e, hh, h => by
    rw [wpT]
    unfold chkT at h
    split at h
    · exact .of (sndT_dsp (soundEs es hh h).1) rfl
    · cases h
  | .cat a b, X, Wx, sc, tp, e, hh, h => by
    rw [wpT]
    unfold chkT at h
    split at h
    · simp only [Bool.and_eq_true] at h
      exact .of (sndT_cat (soundL a hh h.1) (soundL b hh h.2)) rfl
    · cases h
  | .slc a lo hi, X, Wx, sc, tp, e, hh, h => by
    rw [wpT]
    unfold chkT at h
    split at h
    · simp only [Bool.and_eq_true] at h
      exact .of (sndT_slc (soundL a hh h.1.1) (soundO lo hh h.1.2) (soundO hi hh h.2)) rfl
    · cases h
  | .rev a, X, Wx, sc, tp, e, hh, h => by
    rw [wpT]
    unfold chkT at h
    split at h
    · rename_i o x p3 pos
      simp only [Bool.and_eq_true] at h
      have h1 := h.1
      unfold isN1 at h1
      split at h1
      · rename_i i k p1 p2
        have e := of_decide_eq_true h1
        subst e
        exact .of (sndT_rev (soundL a hh h.2)) rfl
      · cases h1
    · cases h
  | .lst a, X, Wx, sc, tp, e, hh, h => by
    rw [wpT]
    unfold chkT at h
    split at h
    · rename_i x hc
      obtain ⟨p, pos, rfl, hg, hpl⟩ := callNm_of hc
      simp only [Bool.and_eq_true] at h
      exact .of (sndT_lst (gl_of hh hg) (hh.m (by decide)) h.2 (soundL a hh h.1)) rfl
    · cases h
  | .srt a, X, Wx, sc, tp, e, hh, h => by
    rw [wpT]
    unfold chkT at h
    split at h
    · rename_i x hc
      obtain ⟨p, pos, rfl, hg, hpl⟩ := callNm_of hc
      simp only [Bool.and_eq_true, Bool.not_eq_true'] at h
      obtain ⟨h, hot⟩ := h
      exact .of (sndT_srt (hh.ok.calm hot) (gl_of hh hg) (hh.m (by decide)) h.2 (soundL a hh h.1)) rfl
    · cases h
  | .srtD a, X, Wx, sc, tp, e, hh, h => by
    rw [wpT]
    unfold chkT at h
    split at h
    · rename_i x hc
      obtain ⟨p, pos, rfl, hg, hpl⟩ := callNm_of hc
      simp only [Bool.and_eq_true, Bool.not_eq_true'] at h
      obtain ⟨h, hot⟩ := h
      exact .of (sndT_srtD (hh.ok.calm hot) hh.ok.hu (gl_of hh hg) (hh.m (by decide)) h.2 (soundL a hh h.1)) rfl
    · cases h
  | .lck t, X, Wx, sc, tp, e, hh, h => by
    rw [wpT]
    unfold chkT at h
    simp only [Bool.and_eq_true] at h
    obtain ⟨h, h2⟩ := h
    split at h2
    · exact .of (sndT_lck (soundT t hh h).t) rfl
    · cases h2
  | .chr d, X, Wx, sc, tp, e, hh, h => by
    rw [wpT]
    unfold chkT at h
    split at h
    · rename_i x hc
      obtain ⟨p, pos, rfl, hg, hpl⟩ := callNm_of hc
      simp only [Bool.and_eq_true, Bool.not_eq_true'] at h
      obtain ⟨⟨h1, h2⟩, hot⟩ := h
      exact .of (sndT_chr (hh.ok.calm hot) (gl_of hh hg) (hh.m (by decide)) h2 (soundE d hh h1).v) rfl
    · cases h
  | .rga a b, X, Wx, sc, tp, e, hh, h => by
    rw [wpT]
    unfold chkT at h
    split at h
    · rename_i z hc
      obtain ⟨p, pos, rfl, hg, hpl⟩ := callNm_of hc
      split at h
      · rename_i x y hc2
        obtain ⟨p2, pos2, rfl, hg2, hpl2⟩ := callNm_of hc2
        simp only [Bool.and_eq_true, Bool.not_eq_true'] at h
        obtain ⟨⟨⟨⟨h1, h2⟩, h3⟩, h4⟩, hot⟩ := h
        exact .of (sndT_rga (hh.ok.calm hot) (gl_of hh hg) (hh.m (by decide)) (gl_of hh hg2) (hh.m (by decide)) h3 h4 (soundE a hh h1).v (soundE b hh h2).v) rfl
      · cases h
    · cases h
  | .spl d s, X, Wx, sc, tp, e, hh, h => by
    rw [wpT]
    unfold chkT at h
    split at h
    · rename_i hc
      obtain ⟨ap, pos, rfl, hb0, hl⟩ := callMt_of hc
      simp only [Bool.and_eq_true] at h
      exact .of (sndT_spl hl h.2 hb0 (soundE d hh h.1.1).v (soundE s hh h.1.2).v) rfl
    · cases h
  | .srtd d, X, Wx, sc, tp, e, hh, h => by
    rw [wpT]
    unfold chkT at h
    split at h
    · rename_i x hc
      obtain ⟨p, pos, rfl, hg, hpl⟩ := callNm_of hc
      simp only [Bool.and_eq_true, Bool.not_eq_true'] at h
      obtain ⟨⟨h1, h2⟩, hot⟩ := h
      exact .of (sndT_srtd (hh.ok.calm hot) (gl_of hh hg) (hh.m (by decide)) h2 (soundE d hh h1).v) rfl
    · cases h
  | .sset a, X, Wx, sc, tp, e, hh, h => by
    rw [wpT]
    unfold chkT at h
    split at h
    · rename_i x hc
      obtain ⟨p, pos, rfl, hg, hpl⟩ := callNm_of hc
      split at h
      · rename_i y hc2
        obtain ⟨p2, pos2, rfl, hg2, hpl2⟩ := callNm_of hc2
        simp only [Bool.and_eq_true, Bool.not_eq_true'] at h
        obtain ⟨h, hot⟩ := h
        exact .of (sndT_sset (hh.ok.calm hot) (gl_of hh hg) (hh.m (by decide)) (gl_of hh hg2) (hh.m (by decide)) h.2 (soundL a hh h.1)) rfl
      · cases h
    · cases h
  | .rep a n, X, Wx, sc, tp, e, hh, h => by
    rw [wpT]
    unfold chkT at h
    split at h
    · simp only [Bool.and_eq_true] at h
      exact .of (sndT_rep (soundL a hh h.1) (soundE n hh h.2).v) rfl
    · cases h
  | .comp a g it own, X, Wx, sc, tp, e, hh, h => by
    rw [wpT]
    unfold chkT at h
    split at h
    · rename_i x tg iter scope pos
      simp only [Bool.and_eq_true, Bool.not_eq_true'] at h
      obtain ⟨h, hot⟩ := h
      obtain ⟨⟨⟨⟨⟨h1, h2⟩, h3⟩, h4⟩, h5⟩, h6⟩ := h
      exact sndU_comp (hh.ok.calm hot) hh.ok.nd (soundI it hh h1) h2 (by rw [hh.sc, hh.ok.N]; exact blkOk_by h3) (fun i hi => by have := List.all_eq_true.mp h4 i hi; simpa using this)
        (fun s H Cc cl fp => by
          rcases Bool.or_eq_true_iff.mp h5 with h5 | h5
          · exact soundG g (hh.blk hot s H scope Cc cl fp) h5
          · exact ownCell_pg (hh.blk hot s H scope Cc cl fp) (fun y e => by
              show (List.lookup y scope.names == some NameKind.cell) = true
              rw [e]; rfl) h5) (fun s H Cc cl fp => (soundE a (hh.blk hot s H scope Cc cl fp) h6).v)
    · cases h
  | .compif a c g it own, X, Wx, sc, tp, e, hh, h => by
    rw [wpT]
    unfold chkT at h
    split at h
    · rename_i x tg iter t scope pos
      simp only [Bool.and_eq_true, Bool.not_eq_true'] at h
      obtain ⟨h, hot⟩ := h
      obtain ⟨⟨⟨⟨⟨⟨h1, h2⟩, h3⟩, h4⟩, h5⟩, h6⟩, h7⟩ := h
      exact sndU_compif (hh.ok.calm hot) hh.ok.nd (soundI it hh h1) h2 (by rw [hh.sc, hh.ok.N]; exact blkOk_by h3) (fun i hi => by have := List.all_eq_true.mp h4 i hi; simpa using this)
        (fun s H Cc cl fp => soundG g (hh.blk hot s H scope Cc cl fp) h5) (fun s H Cc cl fp => (soundE c (hh.blk hot s H scope Cc cl fp) h6).t) (fun s H Cc cl fp => (soundE a (hh.blk hot s H scope Cc cl fp) h7).v)
    · cases h
theorem soundL : ∀ (ir : IL) {X : Cx} {Wx : WX} {sc : Scope} {tp : Bool} {e : Expr}, Here C G X Wx sc tp → chkL C ir sc tp e = true → PE X e (liftL X.K Wx (wpL G ir))
  | .t t, X, Wx, sc, tp, e, hh, h => by
    rw [wpL]
    exact lst_t (soundT t hh h).t.v
  | .tk t, X, Wx, sc, tp, e, hh, h => by
    rw [wpL]
    exact lst_t (sndT_lck (soundT t hh h).t).v
  | .of a, X, Wx, sc, tp, e, hh, h => by
    rw [wpL]
    exact lst_of (soundE a hh h).v
theorem soundG : ∀ (ir : IG) {X : Cx} {Wx : WX} {sc : Scope} {tp : Bool} {e : Expr}, Here C G X Wx sc tp → chkG C ir sc tp e = true → PG X e (liftG X.K (gSlots ir) (wpG G ir))
  | .nm i, X, Wx, sc, tp, e, hh, h => by
    rw [wpG, gSlots]
    unfold chkG at h
    split at h
    · simp only [Bool.and_eq_true, decide_eq_true_eq] at h
      exact pg_nmL hh.ok.nd (hh.hN h.1) (loc_of hh h.2).1 (loc_of hh h.2).2
    · cases h
  | .tup gs, X, Wx, sc, tp, e, hh, h => by
    rw [wpG, gSlots]
    unfold chkG at h
    split at h
    · simp only [Bool.and_eq_true, Bool.not_eq_true'] at h
      obtain ⟨h, hot⟩ := h
      obtain ⟨h1, h2, h3⟩ := soundGs gs hh h
      exact pg_tupL (hh.ok.calm hot) h2 h3 h1
    · cases h
  | .unl gs, X, Wx, sc, tp, e, hh, h => by
    rw [wpG, gSlots]
    unfold chkG at h
    split at h
    · simp only [Bool.and_eq_true, Bool.not_eq_true'] at h
      obtain ⟨h, hot⟩ := h
      obtain ⟨h1, h2, h3⟩ := soundGs gs hh h
      exact pg_unlL (hh.ok.calm hot) h2 h3 h1
    · cases h
  | .sub o i, X, Wx, sc, tp, e, hh, h => by
    rw [wpG, gSlots]
    unfold chkG at h
    split at h
    · simp only [Bool.and_eq_true] at h
      exact pg_subL (by have := hh.ok.hu; omega) h.1.1 (soundE o hh h.1.2).v (soundE i hh h.2).v
    · cases h
  | .slc o lo hi, X, Wx, sc, tp, e, hh, h => by
    rw [wpG, gSlots]
    unfold chkG at h
    split at h
    · simp only [Bool.and_eq_true] at h
      exact pg_slcL (soundE o hh h.1.1).v (soundE lo hh h.1.2).v (soundE hi hh h.2).v
    · cases h
  | .slo o lo hi, X, Wx, sc, tp, e, hh, h => by
    rw [wpG, gSlots]
    unfold chkG at h
    split at h
    · simp only [Bool.and_eq_true] at h
      exact pg_sloL (soundE o hh h.1.1).v (soundO lo hh h.1.2) (soundO hi hh h.2)
    · cases h
theorem soundGs : ∀ (ir : IGs) {X : Cx} {Wx : WX} {sc : Scope} {tp : Bool} {es : List Expr}, Here C G X Wx sc tp → chkGs C ir sc tp es = true → PGs X es (liftGs X.K (gsSlots ir) (wpGs G ir)) ∧ noStars es = true ∧ es.length = ir.len
  | .nil, X, Wx, sc, tp, es, hh, h => by
    rw [wpGs, gsSlots]
    cases es with
    | nil => exact ⟨pgs_nilL, rfl, rfl⟩
    | cons _ _ => simp [chkGs] at h
  | .cons g r, X, Wx, sc, tp, es, hh, h => by
    rw [wpGs, gsSlots]
    cases es with
    | nil => simp [chkGs] at h
    | cons e t =>
      simp only [chkGs, Bool.and_eq_true] at h
      obtain ⟨h1, h2, h3⟩ := soundGs r hh h.2
      exact ⟨pgs_consL h.1.1 (soundG g hh h.1.2) h1, by simp only [noStars, List.all_cons, h.1.1, Bool.true_and]; exact h2, by simp only [List.length_cons, IGs.len, h3]⟩
theorem soundI : ∀ (ir : II) {X : Cx} {Wx : WX} {sc : Scope} {tp : Bool} {tg e : Expr}, Here C G X Wx sc tp → chkI C ir sc tp tg e = true → PI X tg e (liftI X.K Wx (wpI G ir))
  | .lst l, X, Wx, sc, tp, tg, e, hh, h => by
    rw [wpI]
    exact pi_lstL (soundL l hh h)
  | .rng a, X, Wx, sc, tp, tg, e, hh, h => by
    rw [wpI]
    unfold chkI at h
    split at h
    · rename_i x hc
      obtain ⟨p, pos, rfl, hg, hpl⟩ := callNm_of hc
      simp only [Bool.and_eq_true] at h
      exact pi_rngL (gl_of hh hg) (hh.m (by decide)) h.2 (soundE a hh h.1).v
    · cases h
  | .rng2 a b, X, Wx, sc, tp, tg, e, hh, h => by
    rw [wpI]
    unfold chkI at h
    split at h
    · rename_i x y hc
      obtain ⟨p, pos, rfl, hg, hpl⟩ := callNm_of hc
      simp only [Bool.and_eq_true] at h
      exact pi_rng2L (gl_of hh hg) (hh.m (by decide)) h.1.2 h.2 (soundE a hh h.1.1.1).v (soundE b hh h.1.1.2).v
    · cases h
  | .rngd a b c, X, Wx, sc, tp, tg, e, hh, h => by
    rw [wpI]
    unfold chkI at h
    split at h
    · rename_i x y z hc
      obtain ⟨p, pos, rfl, hg, hpl⟩ := callNm_of hc
      simp only [Bool.and_eq_true] at h
      exact pi_rngdL (gl_of hh hg) (hh.m (by decide)) h.1.1.2 h.1.2 h.2 (soundE a hh h.1.1.1.1.1).v (soundE b hh h.1.1.1.1.2).v (soundE c hh h.1.1.1.2).v
    · cases h
  | .keys d, X, Wx, sc, tp, tg, e, hh, h => by
    rw [wpI]
    unfold chkI at h
    exact pi_keysL (soundE d hh h).v
  | .chr d, X, Wx, sc, tp, tg, e, hh, h => by
    rw [wpI]
    unfold chkI at h
    exact pi_chrL (soundE d hh h).v
  | .zipg x y xs ys, X, Wx, sc, tp, tg, e, hh, h => by
    rw [wpI]
    unfold chkI at h
    simp only [Bool.and_eq_true] at h
    obtain ⟨ht, h⟩ := h
    cases tg <;> first | (simp at ht; done) | skip
    split at h
    · rename_i u p1 v p2 hc
      obtain ⟨p, pos, rfl, hg, hpl⟩ := callNm_of hc
      simp only [Bool.and_eq_true, decide_eq_true_eq, gltB, List.any_eq_true] at h
      obtain ⟨⟨⟨rfl, rfl⟩, ⟨⟨q1, m1, rfl⟩, h2⟩, h3⟩, ⟨⟨q2, m2, rfl⟩, h5⟩, h6⟩ := h
      obtain ⟨a1, g1, t1⟩ := hh.ok.glt _ _ m1
      obtain ⟨a2, g2, t2⟩ := hh.ok.glt _ _ m2
      exact pi_zipgL (gl_of hh hg) (hh.m (by decide)) (gl_of hh h2) g1 t1 (plain_dbg h3) (gl_of hh h5) g2 t2 (plain_dbg h6)
    · cases h
  | .zip a b, X, Wx, sc, tp, tg, e, hh, h => by
    rw [wpI]
    unfold chkI at h
    simp only [Bool.and_eq_true] at h
    obtain ⟨ht, h⟩ := h
    cases tg <;> first | (simp at ht; done) | skip
    split at h
    · rename_i x y hc
      obtain ⟨p, pos, rfl, hg, hpl⟩ := callNm_of hc
      simp only [Bool.and_eq_true] at h
      exact pi_zipL (gl_of hh hg) (hh.m (by decide)) h.1.2 h.2 (soundL a hh h.1.1.1) (soundL b hh h.1.1.2)
    · cases h
  | .enm a, X, Wx, sc, tp, tg, e, hh, h => by
    rw [wpI]
    unfold chkI at h
    simp only [Bool.and_eq_true] at h
    obtain ⟨ht, h⟩ := h
    cases tg <;> first | (simp at ht; done) | skip
    split at h
    · rename_i x hc
      obtain ⟨p, pos, rfl, hg, hpl⟩ := callNm_of hc
      simp only [Bool.and_eq_true] at h
      exact pi_enmL (gl_of hh hg) (hh.m (by decide)) h.2 (soundL a hh h.1)
    · cases h
end
variable {C : Ctx} {G : Gs}
theorem swNone_fold {ts vs : List Expr} {p1 p2 : Pos} {k1 k2 : Nat} {env : Env} (h : vs.all (foldedForSure 8) = true) : swappedStores [.Tuple ts k1 p1] (.Tuple vs k2 p2) env = pure none := by
  unfold swappedStores
  simp only [h]
  split
  · rfl
  · split
    · rfl
    · split
      · rfl
      · rfl
theorem swOk_of {tg e : Expr} {pos : Pos} {env : Env} (h : swOk tg e = true) (n : (!isLC e || isTup tg) = true) : swapsWithSole [tg] e pos.line env = pure false ∧ swappedStores [tg] e env = pure none := by
  constructor
  · show swapsWith e (some tg) pos.line env = pure false
    cases tg <;> cases e <;> first | rfl | (simp [isLC, isTup] at n)
  · cases tg <;> first | (simp [swOk] at h; done) | rfl | skip
    · cases e <;> first | rfl | (simp [swOk] at h; done)
    · cases e <;> first | rfl | skip
      exact swNone_fold h
theorem sw_par {x y : Str} {px py pt pt2 : Pos} {kt k2 : Nat} {ea eb : Expr} {env : Env} (h1 : env.kindOf x = some .local) (h2 : env.kindOf y = some .local) (hl : px.line = py.line) (hxy : x ≠ y) (hn : noStars [ea, eb] = true) (hf : (foldedForSure 8 ea && foldedForSure 8 eb) = false) (hc : (constantsAlone 8 ea && constantsAlone 8 eb) = false) :
    swappedStores [.Tuple [.Name x px, .Name y py] kt pt] (.Tuple [ea, eb] k2 pt2) env = if env.blockKind = .function then pure (some [x, y]) else pure none := by
  have hs1 : notStar ea = true := by simp only [noStars, List.all_cons, Bool.and_eq_true] at hn; exact hn.1
  have hs2 : notStar eb = true := by simp only [noStars, List.all_cons, Bool.and_eq_true] at hn; exact hn.2.1
  unfold swappedStores
  by_cases hb : env.blockKind = .function
  · rw [if_pos hb]
    have ed : ([x, y].eraseDups).length = 2 := by
      have hyx : (y == x) = false := by
        cases e : (y == x) with
        | true => exact (hxy (eq_of_beq e).symm).elim
        | false => rfl
      simp [List.eraseDups_cons, List.filter_cons, hyx]
    have c1 : ((env.kindOf x == some NameKind.local) && (px.line == px.line)) = true := by rw [h1]; simp
    have c2 : ((env.kindOf y == some NameKind.local) && (py.line == px.line)) = true := by rw [h2, hl]; simp
    have hb2 : (env.blockKind != ScopeKind.function) = false := by rw [hb]; rfl
    simp only [List.length_cons, List.length_nil, Nat.zero_add, Nat.reduceAdd, beq_self_eq_true, Bool.true_or, Bool.not_true, bne_self_eq_false, Bool.false_or, hb2, Bool.false_eq_true, if_false, List.any_cons, List.any_nil, Bool.or_false, List.head?_cons, Option.map_some, Option.getD_some, List.all_cons, List.all_nil, Bool.and_true, hf, hc]
    split
    · rename_i e1
      simp [notStar] at hs1
    split
    · rename_i e1
      simp [notStar] at hs2
    have p1 : (Expr.Name x px).pos = px := rfl
    simp only [p1, List.filterMap_cons, c1, c2, List.filterMap_nil, if_true, Bool.or_false, Bool.false_eq_true, if_false, List.length_cons, List.length_nil, Nat.zero_add, Nat.reduceAdd, bne_self_eq_false, Bool.false_or, ed]
  · rw [if_neg hb]
    have : (env.blockKind != .function) = true := by simp [hb]
    simp [this]
theorem sw_par0 {x y : Str} {px py pt pt2 : Pos} {kt k2 : Nat} {ea eb : Expr} {env : Env} (h : ¬ (env.kindOf x = some .local ∧ env.kindOf y = some .local)) (hn1 : notStar ea = true) (hn2 : notStar eb = true) :
    swappedStores [.Tuple [.Name x px, .Name y py] kt pt] (.Tuple [ea, eb] k2 pt2) env = pure none := by
  unfold swappedStores
  by_cases hb : env.blockKind = .function
  · have hb2 : (env.blockKind != ScopeKind.function) = false := by rw [hb]; rfl
    have c0 : ((env.kindOf x == some NameKind.local && px.line == px.line) = true ∧ (env.kindOf y == some NameKind.local && py.line == px.line) = true) → False := fun ⟨e1, e2⟩ => by
      rw [Bool.and_eq_true] at e1 e2
      exact h ⟨eq_of_beq e1.1, eq_of_beq e2.1⟩
    simp only [List.length_cons, List.length_nil, Nat.zero_add, Nat.reduceAdd, beq_self_eq_true, Bool.true_or, Bool.not_true, bne_self_eq_false, Bool.false_or, hb2, Bool.false_eq_true, if_false, List.any_cons, List.any_nil, Bool.or_false, List.head?_cons, Option.map_some, Option.getD_some, List.all_cons, List.all_nil, Bool.and_true]
    split
    · rename_i e1
      simp [notStar] at hn1
    split
    · rename_i e1
      simp [notStar] at hn2
    have p1 : (Expr.Name x px).pos = px := rfl
    simp only [p1, List.filterMap_cons, List.filterMap_nil]
    cases e1 : (env.kindOf x == some NameKind.local && px.line == px.line) <;> cases e2 : (env.kindOf y == some NameKind.local && py.line == px.line) <;> first | exact (c0 ⟨e1, e2⟩).elim | simp
  · have : (env.blockKind != .function) = true := by simp [hb]
    simp [this]
theorem mat_of {ir : IE} {X : Cx} {Wx : WX} {sc : Scope} {e : Expr} (hh : Here C G X Wx sc true) (h : chkE C ir sc true e = true) (hl : isLC e = true) : ∃ t, ir = .mat t ∧ chkT C t sc true e = true := by
  cases e <;> first | (simp [isLC] at hl; done) | skip
  all_goals
    cases ir <;> first
      | exact ⟨_, rfl, h⟩
      | (simp [chkE, callNm, callMt, cstB] at h; done)
      | (exfalso; simp only [chkE] at h; split at h <;> simp [callNm, callMt] at h; done)
      | (exfalso; rename_i w; cases w <;> simp [chkE, cstB, foldC] at h; done)
theorem callMsg_of {e : Expr} {x : Str} (h : callMsg e = some x) : ∃ p m j p2 p3, e = .Call (.Name x p) [.Constant (.str m) j p2] [] p3 := by
  unfold callMsg at h
  split at h
  · cases h; exact ⟨_, _, _, _, _, rfl⟩
  · cases h
theorem kind_of {X : Cx} {Wx : WX} {sc : Scope} {tp : Bool} (hh : Here C G X Wx sc tp) {x : Str} (h : stoB false sc x = true) : X.env.kindOf x = some .local := by
  unfold stoB at h
  unfold Env.kindOf
  rw [hh.sc]
  split at h
  · assumption
  · cases h
  · cases h
theorem Here.tr {X : Cx} {Wx : WX} {sc : Scope} (hh : Here C G X Wx sc true) (hhot : C.hot = false) (W : WX) (pn : List (Addr × Obj)) (xe : Value → Shared → Prop) (tk : Takes (X.tr pn xe) W) (po : PassesOwn (model X.prog X.w) X.A X.env xe) : Here C G (X.tr pn xe) W sc true where
  ok := {
    N := hh.ok.N
    calm := hh.ok.calm
    nd := hh.ok.nd
    un := hh.ok.un
    room := hh.ok.room
    hxs := hh.ok.hxs
    mth := hh.ok.mth
    mks := hh.ok.mks
    fld := hh.ok.fld
    exc := fun c x h => let e := hh.ok.exc c x h; ⟨e.glo, e.xin, e.kp, e.bs, e.ty, e.exc, e.ve⟩
    exm := hh.ok.exm
    exs := hh.ok.exs
    gls := hh.ok.gls
    glt := hh.ok.glt
    icl := hh.ok.icl
    hx0 := hh.ok.hx0
    hx := fun a n h => by rw [hh.ok.hx0 hhot] at h; cases h
    takes := tk
    po := po
    fns := hh.ok.fns
    blt := hh.ok.blt }
  sc := hh.sc
  fn := hh.fn
  up := hh.up
theorem Here.suite {X : Cx} {Wx : WX} {sc : Scope} (hh : Here C G X Wx sc true) (hhot : C.hot = false) {a : Addr} {oe : Obj} {n : Nat} {pn : List (Addr × Obj)} (hn : n ∈ G.ex) (hz : Zc (.ref (G.cl n)) none oe) (hd : ∃ vs, oe.data = .fields vs) :
    Here { C with hot := true } { G with hx := some (a, n) } (X.suite a ((a, oe) :: pn)) noW sc true where
  ok := {
    N := hh.ok.N
    calm := fun h => by cases h
    nd := hh.ok.nd
    un := hh.ok.un
    room := fun h => by cases h
    hxs := fun _ => ⟨_, _, rfl⟩
    mth := fun _ _ _ _ h => by cases h
    mks := fun _ _ _ _ h => by cases h
    fld := hh.ok.fld
    exc := fun c x h => let e := hh.ok.exc c x h; ⟨e.glo, e.xin, e.kp, e.bs, e.ty, e.exc, e.ve⟩
    exm := hh.ok.exm
    exs := hh.ok.exs
    gls := hh.ok.gls
    glt := hh.ok.glt
    icl := hh.ok.icl
    hx0 := fun h => by cases h
    hx := fun a' n' h => by
      cases h
      obtain ⟨x, hx⟩ := hh.ok.exs n hn
      exact ⟨⟨x, hx⟩, call_isE (hh.ok.exc n x hx).exc hz hd, call_isET (hh.ok.exc n x hx).exc hz hd⟩
    takes := fun _ _ x => by
      obtain ⟨_, _, _, _, _, _, _, _, _, _, _, _, _, _, _, _, z⟩ := x
      exact z.elim
    po := PassesOwn.never
    fns := fun _ _ _ h => by cases h
    blt := hh.ok.blt }
  sc := hh.sc
  fn := hh.fn
  up := fun _ => .inr rfl
mutual
theorem soundS : ∀ (ir : IS) {C : Ctx} {G : Gs} {X : Cx} {Wx : WX} {sc : Scope} {s : Stmt}, Here C G X Wx sc true → chkS C ir sc s = true → PS X s (liftS X.K Wx (wpS G ir))
  | .set i e, C, G, X, Wx, sc, s, hh, h => by
    rw [wpS]
    unfold chkS at h
    split at h
    · rename_i y py v pos
      simp only [Bool.and_eq_true, decide_eq_true_eq] at h
      obtain ⟨⟨h1, h2⟩, h3⟩ := h
      by_cases hl : isLC v = true
      · obtain ⟨t, rfl, ht⟩ := mat_of hh h3 hl
        have hU := soundT t hh ht
        cases v <;> first | (simp [isLC] at hl; done) | skip
        · rename_i elt gs scope lpos
          by_cases hb : (X.env.blockKind == .function && X.env.kindOf y == some .local && py.line == lpos.line && !(scope.names.any fun (n, k) => n == y && (k == .local || k == .cell))) = true
          · have hsw : swapsWith (.ListComp elt gs scope lpos) (some (.Name y py)) pos.line X.env = pure true := by
              show (pure (X.env.blockKind == .function && X.env.kindOf y == some .local && py.line == lpos.line && !(scope.names.any fun (n, k) => n == y && (k == .local || k == .cell))) : Sem Bool) = _
              rw [hb]
            have hy : X.env.scope.names.lookup y = some .local := by
              simp only [Bool.and_eq_true, beq_iff_eq] at hb
              exact hb.1.1.2
            have z := ps_set_lc (hU.s rfl i y py pos (hh.hN h1) hy hsw)
            rw [wpE]
            exact z
          · have hsw : swapsWith (.ListComp elt gs scope lpos) (some (.Name y py)) pos.line X.env = pure false := by
              show (pure (X.env.blockKind == .function && X.env.kindOf y == some .local && py.line == lpos.line && !(scope.names.any fun (n, k) => n == y && (k == .local || k == .cell))) : Sem Bool) = _
              rw [Bool.eq_false_iff.mpr hb]
            exact ps_set_plain hh.ok.nd (hh.hN h1) (loc_of hh h2).1 (loc_of hh h2).2 hsw (soundE (.mat t) hh h3).v
        all_goals (exfalso; cases t <;> (simp [chkT, callNm, callMt] at ht))
      · exact ps_set_plain hh.ok.nd (hh.hN h1) (loc_of hh h2).1 (loc_of hh h2).2 (sw_none (by simpa using hl)) (soundE e hh h3).v
    · cases h
  | .asg g e, C, G, X, Wx, sc, s, hh, h => by
    rw [wpS]
    unfold chkS at h
    split at h
    · simp only [Bool.and_eq_true, Bool.not_eq_true'] at h
      obtain ⟨⟨⟨⟨h1, h2⟩, h3⟩, h4⟩, h5⟩ := h
      exact ps_asgL h3 (swOk_of h1 h2).1 (swOk_of (pos := ⟨0, 0, 0, 0⟩) h1 h2).2 (soundE e hh h5).v (soundG g hh h4)
    · cases h
  | .par i j a b, C, G, X, Wx, sc, s, hh, h => by
    rw [wpS]
    unfold chkS at h
    split at h
    · rename_i x px y py kt pt ea eb k2 pt2 pos
      simp only [Bool.and_eq_true, decide_eq_true_eq, Bool.not_eq_true', beq_iff_eq] at h
      obtain ⟨⟨⟨⟨⟨⟨⟨⟨h1, h2⟩, h3⟩, h6⟩, h7⟩, h8⟩, h9⟩, hA⟩, hB⟩ := h
      obtain ⟨pa, ns⟩ := soundEs (.cons a (.cons b .nil)) hh h9
      have hxy : x ≠ y := fun e => by rw [e, beq_self_eq_true] at h3; cases h3
      by_cases hk : (sc.names.lookup x = some .local ∧ sc.names.lookup y = some .local) ∧ X.env.blockKind = .function
      · obtain ⟨⟨h4, h5⟩, hb⟩ := hk
        have k1 : X.env.kindOf x = some .local := by unfold Env.kindOf; rw [hh.sc]; exact h4
        have k2' : X.env.kindOf y = some .local := by unfold Env.kindOf; rw [hh.sc]; exact h5
        have hsw := sw_par (kt := kt) (pt := pt) (k2 := k2) (pt2 := pt2) k1 k2' h6 hxy ns h7 h8
        rw [if_pos hb] at hsw
        have hc : X.calm = true := hh.ok.calm (by
          unfold chkG at hA
          simp only [Bool.and_eq_true, Bool.not_eq_true'] at hA
          exact hA.2)
        have hij : i ≠ j := fun e => hxy (by rw [e, h2] at h1; exact (Option.some.inj h1).symm)
        refine ps_weak (ps_par hc hh.ok.nd (hh.hN h1) (hh.hN h2) hij (by rw [hh.sc]; exact h4) (by rw [hh.sc]; exact h5) pa hsw) fun D Z H ⟨σ, S, E, g, hm, pnx, prt, pbk, pct, pex⟩ => ?_
        refine ⟨σ, S, fun ws S' => match ws with
          | [x, y] => E.nx ((σ.set i (some x)).set j (some y)) S'
          | _ => False, E.ex σ, g, by simp only [wpEs]; exact hm, fun ws S' vs H' q g' e r => ?_, fun C S' H' q g' e => pex σ C S' Z H' q g' e⟩
        match ws, q with
        | [u, v], q =>
          cases r with
          | cons r1 r =>
            cases r with
            | cons r2 r =>
              cases r
              exact ⟨_, _, rfl, pnx _ _ _ _ q ((g'.set r1 i).set r2 j) e⟩
      · have hsw : swappedStores [.Tuple [.Name x px, .Name y py] kt pt] (.Tuple [ea, eb] k2 pt2) X.env = pure none := by
          by_cases hl : sc.names.lookup x = some .local ∧ sc.names.lookup y = some .local
          · have k1 : X.env.kindOf x = some .local := by unfold Env.kindOf; rw [hh.sc]; exact hl.1
            have k2' : X.env.kindOf y = some .local := by unfold Env.kindOf; rw [hh.sc]; exact hl.2
            have hsw := sw_par (kt := kt) (pt := pt) (k2 := k2) (pt2 := pt2) k1 k2' h6 hxy ns h7 h8
            rw [if_neg (fun hb => hk ⟨hl, hb⟩)] at hsw
            exact hsw
          · have hs1 : notStar ea = true := by simp only [noStars, List.all_cons, Bool.and_eq_true] at ns; exact ns.1
            have hs2 : notStar eb = true := by simp only [noStars, List.all_cons, Bool.and_eq_true] at ns; exact ns.2.1
            refine sw_par0 (fun hz => hl ?_) hs1 hs2
            unfold Env.kindOf at hz
            rw [hh.sc] at hz
            exact hz
        have pg := soundG (.tup (.cons (.nm i) (.cons (.nm j) .nil))) hh hA
        have pe := soundE (.tup (.cons a (.cons b .nil))) hh hB
        have ps := ps_asgL (pos := pos) (by rfl) (by rfl) hsw pe.v pg
        refine ps_weak ps fun D Z H ⟨σ, S, E, g, hm, pnx, prt, pbk, pct, pex⟩ => ⟨σ, S, E, g, ?_, pnx, prt, pbk, pct, pex⟩
        have z2 : 2 ≤ sizeLine := by decide
        simp only [wpE, wpEs, wpG, wpGs, List.length_cons, List.length_nil, IGs.len, Nat.zero_add, Nat.reduceAdd, z2, true_and]
        exact hm
    · cases h
  | .aug i op e, C, G, X, Wx, sc, s, hh, h => by
    rw [wpS]
    unfold chkS at h
    split at h
    · simp only [Bool.and_eq_true, decide_eq_true_eq] at h
      obtain ⟨⟨⟨h1, h2⟩, h3⟩, h4⟩ := h
      exact ps_augL h1 hh.ok.nd (hh.hN h2) (loc_of hh h3).1 (loc_of hh h3).2 (soundE e hh h4).v
    · cases h
  | .augx o i op e, C, G, X, Wx, sc, s, hh, h => by
    rw [wpS]
    unfold chkS at h
    split at h
    · simp only [Bool.and_eq_true] at h
      exact ps_augxL (by have := hh.ok.hu; omega) h.1.1.1.1 h.1.1.1.2 (soundE o hh h.1.1.2).v (soundE i hh h.1.2).v (soundE e hh h.2).v
    · cases h
  | .exp e, C, G, X, Wx, sc, s, hh, h => by
    rw [wpS]
    unfold chkS at h
    split at h
    · simp only [Bool.and_eq_true, Bool.not_eq_true'] at h
      exact ps_expL h.1 (soundE e hh h.2).v
    · cases h
  | .ret e, C, G, X, Wx, sc, s, hh, h => by
    rw [wpS]
    unfold chkS at h
    split at h
    · exact ps_retL (soundE e hh h).v
    · cases h
  | .retN, C, G, X, Wx, sc, s, hh, h => by
    rw [wpS]
    unfold chkS at h
    split at h
    · exact ps_retNL
    · cases h
  | .pas, C, G, X, Wx, sc, s, hh, h => by
    rw [wpS]
    unfold chkS at h
    split at h
    · exact ps_pasL
    · cases h
  | .brk, C, G, X, Wx, sc, s, hh, h => by
    rw [wpS]
    unfold chkS at h
    split at h
    · exact ps_brkL
    · cases h
  | .cnt, C, G, X, Wx, sc, s, hh, h => by
    rw [wpS]
    unfold chkS at h
    split at h
    · exact ps_cntL
    · cases h
  | .iff c a b, C, G, X, Wx, sc, s, hh, h => by
    rw [wpS]
    unfold chkS at h
    split at h
    · simp only [Bool.and_eq_true] at h
      exact ps_iffL (soundE c hh h.1.1).t (soundSs a hh h.1.2) (soundSs b hh h.2)
    · cases h
  | .whl c b, C, G, X, Wx, sc, s, hh, h => by
    rw [wpS]
    unfold chkS at h
    split at h
    · simp only [Bool.and_eq_true] at h
      exact ps_whlL hh.ok.po (soundE c hh h.1).t (soundSs b hh h.2)
    · cases h
  | .for g it b, C, G, X, Wx, sc, s, hh, h => by
    rw [wpS]
    unfold chkS at h
    split at h
    · simp only [Bool.and_eq_true, Bool.not_eq_true'] at h
      obtain ⟨h, hot⟩ := h
      exact ps_forL hh.ok.po (hh.ok.calm hot) h.1.1.1 (soundI it hh h.1.1.2) (soundG g hh h.1.2) (soundSs b hh h.2)
    · cases h
  | .ford g i b, C, G, X, Wx, sc, s, hh, h => by
    rw [wpS]
    unfold chkS at h
    split at h
    · simp only [Bool.and_eq_true, Bool.not_eq_true'] at h
      obtain ⟨⟨⟨h1, h2⟩, h3⟩, hot⟩ := h
      exact ps_fordL hh.ok.po (hh.ok.calm hot) (by
        have key : ∀ y p, nmB C sc i y = true → PE X (.Name y p) (liftE X.K Wx (wpE G (.var i))) := fun y p hz => (soundE (.var i) hh (e := .Name y p) hz).v
        rw [wpE] at key
        exact key _ _ h1) (soundG g hh h2) (soundSs b hh h3)
    · cases h
  | .lck b, C, G, X, Wx, sc, s, hh, h => by
    rw [wpS]
    unfold chkS at h
    exact ps_lckL (soundS b hh h)
  | .sfl c o f e, C, G, X, Wx, sc, s, hh, h => by
    rw [wpS]
    unfold chkS at h
    split at h
    · simp only [Bool.and_eq_true, decide_eq_true_eq, List.contains_eq_mem] at h
      obtain ⟨⟨⟨rfl, h1⟩, h2⟩, h3⟩ := h
      obtain ⟨hc, hn⟩ := hh.ok.fld c _ h1
      exact ps_sflL hc hn (soundE o hh h2).v (soundE e hh h3).v
    · cases h
  | .rse c, C, G, X, Wx, sc, s, hh, h => by
    rw [wpS]
    unfold chkS at h
    split at h
    · split at h
      · rename_i x hx
        obtain ⟨p, m, j, p2, p3, rfl⟩ := callMsg_of hx
        simp only [Bool.and_eq_true, List.contains_eq_mem, decide_eq_true_eq, Bool.not_eq_true'] at h
        obtain ⟨⟨⟨hot, h1⟩, h2⟩, h3⟩ := h
        have F := hh.ok.exc c x h1
        exact ps_weak (ps_rseL (hh.ok.calm hot) hh.ok.takes F (gl_of hh h2) h3) fun D Z H ⟨σ, S, E, g, q, k1, k2, k3, k4, k5⟩ => ⟨σ, S, E, g, q.2, k1, k2, k3, k4, k5⟩
      · cases h
    · cases h
  | .tryO b c s, C, G, X, Wx, sc, st, hh, h => by
    unfold chkS at h
    split at h
    · simp only [Bool.and_eq_true, List.contains_eq_mem, decide_eq_true_eq, Bool.not_eq_true'] at h
      obtain ⟨⟨⟨⟨⟨hot, h1⟩, h2⟩, h3⟩, h4⟩, h5⟩ := h
      have F := hh.ok.exc c _ h1
      have up := (hh.up rfl).resolve_right (by rw [hot]; exact Bool.false_ne_true)
      exact ps_tryOL up.1 up.2 ⟨gl_of hh h2, plain_dbg h3, .inl F.glo⟩ hh.ok.takes (fun n hn => let ⟨x, hx⟩ := hh.ok.exs n hn; (hh.ok.exm n x c _ hx h1).1)
        (fun W pn xe tk po => soundSs b (hh.tr hot W pn xe tk po) h4) (fun a oe n pn hn hz hd => soundSs s (hh.suite hot hn hz hd) h5)
    · cases h
  | .tryA b c i s, C, G, X, Wx, sc, st, hh, h => by
    unfold chkS at h
    split at h
    · simp only [Bool.and_eq_true, List.contains_eq_mem, decide_eq_true_eq, Bool.not_eq_true'] at h
      obtain ⟨⟨⟨⟨⟨⟨⟨hot, h1⟩, h2⟩, h3⟩, h6⟩, h7⟩, h4⟩, h5⟩ := h
      have F := hh.ok.exc c _ h1
      have up := (hh.up rfl).resolve_right (by rw [hot]; exact Bool.false_ne_true)
      exact ps_tryAL up.1 up.2 hh.ok.nd (hh.hN h6) (kind_of hh h7) ⟨gl_of hh h2, plain_dbg h3, .inl F.glo⟩ hh.ok.takes (fun n hn => let ⟨x, hx⟩ := hh.ok.exs n hn; (hh.ok.exm n x c _ hx h1).1)
        (fun W pn xe tk po => soundSs b (hh.tr hot W pn xe tk po) h4) (fun a oe n pn hn hz hd => soundSs s (hh.suite hot hn hz hd) h5)
    · cases h
theorem soundSs : ∀ (ir : ISs) {C : Ctx} {G : Gs} {X : Cx} {Wx : WX} {sc : Scope} {ss : List Stmt}, Here C G X Wx sc true → chkSs C ir sc ss = true → PSs X ss (liftS X.K Wx (wpSs G ir))
  | .nil, C, G, X, Wx, sc, ss, hh, h => by
    rw [wpSs]
    cases ss with
    | nil => exact pss_nilL
    | cons _ _ => simp [chkSs] at h
  | .cons s r, C, G, X, Wx, sc, ss, hh, h => by
    rw [wpSs]
    cases ss with
    | nil => simp [chkSs] at h
    | cons t u =>
      simp only [chkSs, Bool.and_eq_true] at h
      exact pss_consL (soundS s hh h.1) (soundSs r hh h.2)
end
def Fns (P : Program) (w : World) (K : PySem.W.Frag) (mg : Str → Option Value) (base : Heap) (G : Gs) (fns : List (Nat × Str)) (k : Nat) : Prop :=
  ∀ i x, fns.lookup i = some x → ∃ k' f fd ps, k' ≤ k ∧ FnOk P w K mg base (L2.CX P w) k' f fd ps (liftSp K (G i)) ∧ mg x = some (.ref f) ∧ PySem.W.keepIn K (.ref f) = true ∧ Binds K fd ps []
theorem Fns.nil {P : Program} {w : World} {K : PySem.W.Frag} {mg : Str → Option Value} {base : Heap} {G : Gs} : Fns P w K mg base G [] 0 := fun i x h => by cases h
theorem Fns.cons {P : Program} {w : World} {K : PySem.W.Frag} {mg : Str → Option Value} {base : Heap} {G : Gs} {fns : List (Nat × Str)} {k i : Nat} {x : Str} {f : Addr} {fd : FuncData} {ps : List Str} {m : MSp} (h : Fns P w K mg base G fns k)
    (F : FnOk P w K mg base (L2.CX P w) (k + 1) f fd ps (liftSp K m)) (hG : G i = m) (hm : mg x = some (.ref f)) (hk : PySem.W.keepIn K (.ref f) = true) (hb : Binds K fd ps []) : Fns P w K mg base G ((i, x) :: fns) (k + 1) := fun j y e => by
  rw [List.lookup_cons] at e
  split at e
  · rename_i hj
    have hj' := eq_of_beq hj
    subst hj'
    cases e
    exact ⟨k + 1, f, fd, ps, Nat.le_refl _, by rw [hG]; exact F, hm, hk, hb⟩
  · obtain ⟨k', f', fd', ps', hk', h1, h2, h3, h4⟩ := h j y e
    exact ⟨k', f', fd', ps', Nat.le_succ_of_le hk', h1, h2, h3, h4⟩
theorem start_gd {K : PySem.W.Frag} {S : Sto} {H : Hp} {ws : List W} {vs : List V} {N : List Str} (g : StOk K S H) (r : RepWs K H ws vs) (hl : ws.length ≤ N.length) : Gd K (ws.map some ++ List.replicate (N.length - ws.length) none) S (L2.start N vs) H where
  len := by
    unfold L2.start
    simp only [List.length_append, List.length_map, List.length_replicate, r.length]
  sl := fun i w e => by
    unfold L2.start
    by_cases hi : i < ws.length
    · rw [List.getElem?_append_left (by simpa using hi), List.getElem?_map] at e
      cases ew : ws[i]? with
      | none => rw [ew] at e; cases e
      | some w' =>
        rw [ew] at e; cases e
        obtain ⟨v, hv, rv⟩ := r.get ew
        refine ⟨v, ?_, rv⟩
        rw [List.getElem?_append_left (by rw [List.length_map, ← r.length]; exact hi), List.getElem?_map, hv]; rfl
    · rw [List.getElem?_append_right (by simpa using Nat.le_of_not_lt hi), List.getElem?_replicate] at e
      split at e <;> cases e
  st := g
structure ExF (K : PySem.W.Frag) (mg : Str → Option Value) (D : Addr) (x : Str) : Prop where
  glo : mg x = some (.ref D)
  xin : PySem.W.excIn K D He.veBase "ValueError.__new__" = true
  kp : PySem.W.keepIn K (.ref D) = true
  bs : PySem.W.subIn K (.ref D) (.type "BaseException") = some true
  ty : PySem.W.typeIn K (.ref D) = some (.type "type")
  exc : ExcC K D
  ve : PySem.W.kitOne K (.ref D) (.type "ValueError") = some true
structure Knows (P : Program) (w : World) (K : PySem.W.Frag) (mg : Str → Option Value) (base : Heap) (G : Gs) (C : Ctx) (k : Nat) : Prop where
  hot : C.hot = false
  fns : Fns P w K mg base G C.fns k
  mth : ∀ f c m, (f, c, m) ∈ C.mth → ∃ k' fa fd ps, k' ≤ k ∧ FnOk P w K mg base (L2.CX P w) k' fa fd ps (liftSp K (G f)) ∧ Cls K (G.cl c) ∧ Meth K (G.cl c) m fa ∧ Binds K fd ps []
  mks : ∀ f c x, (f, c, x) ∈ C.mks → ∃ k' fa fd ps, k' + 1 ≤ k ∧ FnOk P w K mg base (L2.CX P w) k' fa fd ps (liftSp K (G f)) ∧ Mk K (G.cl c) fa ∧ mg x = some (.ref (G.cl c)) ∧ Binds K fd ps []
  fld : ∀ c f, (c, f) ∈ C.fld → Cls K (G.cl c) ∧ NoAttr K (G.cl c) f
  exc : ∀ c x, (c, x) ∈ C.exc → ExF K mg (G.cl c) x
  exm : ∀ c x d y, (c, x) ∈ C.exc → (d, y) ∈ C.exc → PySem.W.exmOne K (.ref (G.cl c)) (.ref (G.cl d)) = some (subX c d) ∧ PySem.W.kitOne K (.ref (G.cl c)) (.ref (G.cl d)) = some (subX c d)
  exs : ∀ n ∈ G.ex, ∃ x, (n, x) ∈ C.exc
  gls : ∀ x k, (x, k) ∈ C.gls → ∃ u, mg x = some u ∧ RelV (kV k) u
  glt : ∀ x ks, (x, ks) ∈ C.glt → ∃ a, mg x = some (.ref a) ∧ TupK K a (ks.map kV)
  icl : ∀ c x, (c, x) ∈ C.icl → C8.InsC K (G.cl c) ∧ mg x = some (.ref (G.cl c))
  hx : G.hx = none
section
variable {P : Program} {w : World} {K : PySem.W.Frag} {mg : Str → Option Value} {base : Heap} {G : Gs} {C : Ctx} {k : Nat}
theorem Knows.nil (hx : G.hx = none) (ex : G.ex = []) : Knows P w K mg base G { N := [], fns := [] } 0 where
  hot := rfl
  fns := Fns.nil
  mth := fun _ _ _ z => by cases z
  mks := fun _ _ _ z => by cases z
  fld := fun _ _ z => by cases z
  exc := fun _ _ z => by cases z
  exm := fun _ _ _ _ z => by cases z
  exs := fun n z => by rw [ex] at z; cases z
  gls := fun _ _ z => by cases z
  glt := fun _ _ z => by cases z
  icl := fun _ _ z => by cases z
  hx := hx
theorem Knows.fn {i : Nat} {x : Str} {f : Addr} {fd : FuncData} {ps : List Str} {m : MSp} (h : Knows P w K mg base G C k) (F : FnOk P w K mg base (L2.CX P w) (k + 1) f fd ps (liftSp K m)) (hG : G i = m) (hm : mg x = some (.ref f))
    (hk : PySem.W.keepIn K (.ref f) = true) (hb : Binds K fd ps []) : Knows P w K mg base G { C with fns := (i, x) :: C.fns } (k + 1) where
  hot := h.hot
  fns := h.fns.cons F hG hm hk hb
  mth := fun f c m z => by obtain ⟨k', a, b, c, l, r⟩ := h.mth f c m z; exact ⟨k', a, b, c, by omega, r⟩
  mks := fun f c m z => by obtain ⟨k', a, b, c, l, r⟩ := h.mks f c m z; exact ⟨k', a, b, c, by omega, r⟩
  fld := h.fld
  exc := h.exc
  exm := h.exm
  exs := h.exs
  gls := h.gls
  glt := h.glt
  icl := h.icl
  hx := h.hx
theorem Knows.up (h : Knows P w K mg base G C k) : Knows P w K mg base G C (k + 1) where
  hot := h.hot
  fns := fun i x e => by obtain ⟨k', a, b, c, l, r⟩ := h.fns i x e; exact ⟨k', a, b, c, by omega, r⟩
  mth := fun f c m z => by obtain ⟨k', a, b, c, l, r⟩ := h.mth f c m z; exact ⟨k', a, b, c, by omega, r⟩
  mks := fun f c m z => by obtain ⟨k', a, b, c, l, r⟩ := h.mks f c m z; exact ⟨k', a, b, c, by omega, r⟩
  fld := h.fld
  exc := h.exc
  exm := h.exm
  exs := h.exs
  gls := h.gls
  glt := h.glt
  icl := h.icl
  hx := h.hx
theorem Knows.meth {i c : Nat} {m : Str} {f : Addr} {fd : FuncData} {ps : List Str} {sp : MSp} (h : Knows P w K mg base G C k) (F : FnOk P w K mg base (L2.CX P w) (k + 1) f fd ps (liftSp K sp)) (hG : G i = sp) (hc : Cls K (G.cl c)) (hm : Meth K (G.cl c) m f)
    (hb : Binds K fd ps []) : Knows P w K mg base G { C with mth := (i, c, m) :: C.mth } (k + 1) :=
  { h.up with
    mth := fun f' c' m' z => by
      rcases List.mem_cons.mp z with e | e
      · cases e; exact ⟨k + 1, f, fd, ps, Nat.le_refl _, by rw [hG]; exact F, hc, hm, hb⟩
      · exact h.up.mth f' c' m' e }
end
theorem fn_sound {P : Program} {w : World} {K : PySem.W.Frag} {mg : Str → Option Value} {base : Heap} {x qual : Str} {params : Arguments} {body : List Stmt} {scope : Scope} {f : Addr} {fd : FuncData} {N ps : List Str} {k : Nat} {G : Gs} {C : Ctx}
    (F : FunD K x qual params body scope [] [] f fd) (S : FnScope N ps scope) (ir : ISs) (hchk : chkSs { C with N := N } ir scope body = true) (hC : Knows P w K mg base G C k) (blt : ∀ x ∈ bltNames, mg x = none) (m : MSp)
    (hm : ∀ ws T Q X, m ws T Q X → ws.length = ps.length ∧ wpF G N.length ir ws T Q X) : FnOk P w K mg base (L2.CX P w) (k + 1) f fd ps (liftSp K m) := by
  refine F.ok S (fun vs H Q E h => ?_) (fun cdv A outer s H vs Q E hr h => ?_)
  · obtain ⟨ws, T, MQ, MX, r, g, hw, _⟩ := h
    rw [← r.length]; exact (hm _ _ _ _ hw).1
  · obtain ⟨ws, T, MQ, MX, r, g, hw, hq, hx⟩ := h
    obtain ⟨hl, hw⟩ := hm _ _ _ _ hw
    have ok : XOk { C with N := N } G (cxOf (L2.CX P w) P w K mg base N qual scope f cdv A outer s H E) (fun cls d _ H => E cls d H) := {
      N := rfl
      calm := fun _ => rfl
      nd := S.nd
      room := fun _ => hr.mono (Nat.zero_le _)
      un := hr.units
      hxs := fun z => by rw [hC.hot] at z; cases z
      mth := fun f' c' m' z _ => by
        obtain ⟨k', fa, fd', ps', hk, h1, h2, h3, h4⟩ := hC.mth f' c' m' z
        exact ⟨k', fa, fd', ps', h1, hr.mono hk, h2, h3, h4⟩
      mks := fun f' c' m' z _ => by
        obtain ⟨k', fa, fd', ps', hk, h1, h2, h3, h4⟩ := hC.mks f' c' m' z
        exact ⟨k', fa, fd', ps', h1, hr.mono hk, h2, h3, h4⟩
      fld := hC.fld
      exc := fun c x z => let e := hC.exc c x z; ⟨e.glo, e.xin, e.kp, e.bs, e.ty, e.exc, e.ve⟩
      exm := hC.exm
      exs := hC.exs
      gls := hC.gls
      glt := hC.glt
      icl := hC.icl
      hx0 := fun _ => hC.hx
      hx := fun a n z => by rw [hC.hx] at z; cases z
      takes := takes_of rfl rfl rfl rfl
      po := passes_of rfl
      fns := fun i x hi _ => by
        obtain ⟨k', f', fd', ps', hk, h1, h2, h3, h4⟩ := hC.fns i x hi
        exact ⟨k', f', fd', ps', h1, hr.mono hk, h2, h3, h4⟩
      blt := blt }
    have hN : ws.length ≤ N.length := by
      rw [hl, ← S.pre]
      exact List.length_take_le' _ _
    refine ⟨_, soundSs ir ⟨ok, rfl, fun _ _ => rfl, fun _ => .inl ⟨rfl, rfl⟩⟩ hchk, ?_⟩
    refine ⟨_, T, _, start_gd g r hN, hw, ?_, ?_, fun _ _ _ _ z => z.elim, fun _ _ _ _ z => z.elim, ?_⟩
    · rintro σ' S' Z' H' ⟨S2, sub, q⟩ g' e'
      exact hq _ _ _ _ q (g'.st.sub sub) (e'.trans (Ext.sub sub)) .non
    · rintro w' S' v H' ⟨S2, sub, q⟩ s' e' r'
      exact hq _ _ _ _ q (s'.sub sub) (e'.trans (Ext.sub sub)) r'
    · rintro σ' Cc S' Z' H' ⟨S2, sub, q⟩ g' e'
      exact hx _ _ _ q (g'.st.sub sub) (e'.trans (Ext.sub sub))
theorem noCX {P : Program} {w : World} (H : Hp) (s : Shared) (e : Value) (s' : Shared) (h : L2.CX P w [] H s (fun _ _ _ => False) e s') : False := by
  obtain ⟨_, _, _, _, _, _, _, _, _, _, _, _, z⟩ := h
  exact z.elim
def lawSp (m : MSp) : Prop := ∀ (ns : List Int), ns.length ≤ 63 → (∀ z ∈ ns, Builtin.Int.intBits z ≤ 1048576) → m [.rol (ns.map W.int)] (fun _ => none) (fun w _ => w = .bl true) noX
theorem walk_law {l : PySem.W.OpenLaw} {k : Nat} {q : Program} {loose : List Str} {XP : (Str → Option Value) → Heap → Prop} {YP : World → Heap → Prop} {d : DefRec} {x : Str} {m : MSp}
    (hn : l.most = some 63) (hdf : d.params.defaults = []) (hr : Room k callerA) (hm : lawSp m)
    (F : ∀ (w : World) (mg : Str → Option Value) (fa : Addr) (h : Heap), YP w h → h.Ns mainGlobals mg → mg d.name = some (.ref fa) →
      ∃ (K : PySem.W.Frag) (fd : FuncData), K.In h ∧ (∀ (s : Shared) (u : Value), BindsTo s fd ⟨[u], []⟩ [(x, u)]) ∧
        ∀ base : Heap, K.In base → base.Ns mainGlobals mg → FnOk l.prog w K mg base (L2.CX l.prog w) k fa fd [x] (liftSp K m)) :
    PySem.W.WalkO q loose XP YP l.row.toRowW d [] (fun f vs => PySem.call f vs) := by
  refine Att.attach_callB hn hdf fun w s₀ s₁ mg mb fa o pm cd doc a vs ns G Y ho hd hcd hmg hobj hints hlen hbits hg => ?_
  obtain ⟨K, fd, KX, hb, hF⟩ := F w mg fa _ Y G.T.g hmg
  refine law_call KX G.T.g G.T.b G.T.builtins G.T.nolimit hg hobj hints (Nat.le_trans hlen (by decide)) hr hF hb (fun H hO hS => ?_) fun H e s' => noCX H _ e s'
  refine ⟨[.rol (ns.map W.int)], fun _ => none, fun w _ => w = .bl true, noX, .cons (.rol (vs := ns.map V.int) ?_ (RepWs.ofInts ns)) .nil, (fun a o e => by cases e), hm ns hlen hbits, fun w' S' v H' e _ _ r => ?_, fun _ _ _ z => False.elim z⟩
  · rcases hS with (h | ⟨o, h⟩) | h
    · rcases hO a with z | ⟨o, xs, z⟩
      · rw [z] at h; cases h
      · rw [z] at h; cases h
    · exact .inl ⟨o, h⟩
    · exact .inr h
  · subst e; cases r; rfl
theorem excB_ok {K : PySem.W.Frag} {D : Addr} (h : excB K D = true) : ExcC K D := by
  obtain ⟨h1, h⟩ := He.ba h
  obtain ⟨h2, h⟩ := He.ba h
  obtain ⟨h3, h⟩ := He.ba h
  obtain ⟨h4, h⟩ := He.ba h
  obtain ⟨h5, h⟩ := He.ba h
  obtain ⟨h6, h⟩ := He.ba h
  obtain ⟨h7, h8⟩ := He.ba h
  exact ⟨He.eqO_ok h1, He.eqO_ok h2, of_decide_eq_true h3, h4, He.eqO_ok h5, He.eqO_ok h6, of_decide_eq_true h7, of_decide_eq_true h8⟩
theorem valsB_ok : ∀ {ks : List Key} {vs : List Value}, valsB ks vs = true → Vals (ks.map kV) vs
  | [], [], _ => .nil
  | k :: r, v :: t, h => by
    simp only [valsB, Bool.and_eq_true] at h
    refine .cons ?_ (valsB_ok h.2)
    have h1 := h.1
    unfold valB at h1
    split at h1
    · exact ⟨_, by rw [of_decide_eq_true h1]⟩
    · exact ⟨_, by rw [of_decide_eq_true h1]⟩
    · cases h1
  | [], _ :: _, h => by simp [valsB] at h
  | _ :: _, [], h => by simp [valsB] at h
theorem gltK_ok {K : PySem.W.Frag} {h : Heap} {mg : Str → Option Value} {x : Str} {ks : List Key} (X : K.In h) (N : h.Ns mainGlobals mg) (c : gltK K x ks = true) : ∃ a, mg x = some (.ref a) ∧ TupK K a (ks.map kV) := by
  obtain ⟨c1, c2⟩ := He.ba c
  refine ⟨_, He.glo_ok X N c1, ?_⟩
  split at c2
  · rename_i o ho
    simp only [Bool.and_eq_true, decide_eq_true_eq] at c2
    obtain ⟨h1, h2⟩ := c2
    split at h2
    · rename_i its n hd
      simp only [Bool.and_eq_true, decide_eq_true_eq] at h2
      exact ⟨o, its, n, ho, h1, hd, Nat.le_trans h2.1 (by decide), valsB_ok h2.2⟩
    · cases h2
  · cases c2
def Look.ctx (L : Look) : Ctx := { N := [], fns := [], fld := L.fld, exc := L.exc, gls := L.gls, glt := L.glt, icl := L.icl }
theorem Knows.start {P : Program} {w : World} {K : PySem.W.Frag} {mg : Str → Option Value} {base h : Heap} {G : Gs} {L : Look} (X : K.In h) (N : h.Ns mainGlobals mg) (c : L.ok K = true) (hcl : G.cl = clK K) (hex : G.ex = L.ex) (hhx : G.hx = none) : Knows P w K mg base G L.ctx 0 := by
  obtain ⟨c1, c⟩ := He.ba c
  obtain ⟨c2, c⟩ := He.ba c
  obtain ⟨c3, c⟩ := He.ba c
  obtain ⟨c4, c⟩ := He.ba c
  obtain ⟨c5, c6⟩ := He.ba c
  rw [List.all_eq_true] at c1 c2 c3 c4 c5 c6
  refine ⟨rfl, Fns.nil, (fun _ _ _ z => by cases z), (fun _ _ _ z => by cases z), fun a f z => ?_, fun a x z => ?_, fun a x d y z z' => ?_, fun n z => ?_, fun x k z => ?_, fun x ks z => gltK_ok X N (c5 _ z), fun a x z => ?_, hhx⟩
  · obtain ⟨h1, h2⟩ := He.ba (c1 _ z)
    rw [hcl]
    exact ⟨He.cls_ok h1, He.noat_ok h2⟩
  · obtain ⟨h1, h⟩ := He.ba (c2 _ z)
    obtain ⟨h2, h⟩ := He.ba h
    obtain ⟨h3, h⟩ := He.ba h
    obtain ⟨h4, h5⟩ := He.ba h
    obtain ⟨e1, e2, e3, e4⟩ := He.exc_ok h3
    have e := of_decide_eq_true h1
    dsimp only at e
    subst e
    rw [hcl]
    exact ⟨He.glo_ok X N h2, e1, e2, e3, e4, excB_ok h4, of_decide_eq_true h5⟩
  · obtain ⟨h1, h2⟩ := He.ba (List.all_eq_true.mp (c3 _ z) _ z')
    rw [hcl]
    exact ⟨of_decide_eq_true h1, of_decide_eq_true h2⟩
  · rw [hex] at z
    obtain ⟨p, hp, rfl⟩ := List.mem_map.mp z
    exact ⟨p.2, hp⟩
  · have h := c4 _ z
    cases k with
    | inl i =>
      obtain ⟨t, e⟩ := He.int_ok X N h
      exact ⟨_, e, ⟨t, rfl⟩⟩
    | inr i =>
      obtain ⟨t, e⟩ := He.str_ok X N h
      exact ⟨_, e, ⟨t, rfl⟩⟩
  · obtain ⟨h1, h⟩ := He.ba (c6 _ z)
    obtain ⟨h2, h⟩ := He.ba h
    obtain ⟨h3, h⟩ := He.ba h
    obtain ⟨h4, h⟩ := He.ba h
    obtain ⟨h5, h⟩ := He.ba h
    obtain ⟨h6, h⟩ := He.ba h
    obtain ⟨h7, h8⟩ := He.ba h
    have e := of_decide_eq_true h1
    dsimp only at e
    subst e
    rw [hcl]
    exact ⟨⟨He.cls_ok h3, He.eqO_ok h4, He.eqO_ok h5, of_decide_eq_true h6, of_decide_eq_true h7, of_decide_eq_true h8⟩, He.glo_ok X N h2⟩
theorem SaysX.d {L : Look} {fa : List He.Fa} {fn : List He.DefD} {K : PySem.W.Frag} (c : SaysX L fa fn K) : He.SaysD fa fn K := congrArg (fun z : AlX => z.2) c
theorem SaysX.l {L : Look} {fa : List He.Fa} {fn : List He.DefD} {K : PySem.W.Frag} (c : SaysX L fa fn K) : L.ok K = true := congrArg (fun z : AlX => z.1) c
def Gs.set (G : Gs) (i : Nat) (m : MSp) : Gs := { G with fn := fun j => if j = i then m else G.fn j }
theorem Gs.set_same {G : Gs} {i : Nat} {m : MSp} : (G.set i m) i = m := if_pos rfl
theorem Gs.set_ne {G : Gs} {i j : Nat} {m : MSp} (h : j ≠ i) : (G.set i m) j = G j := if_neg h
def Ctx.lacks (C : Ctx) (i : Nat) : Bool := C.fns.all (fun p => decide (p.1 ≠ i)) && (C.mth.all (fun p => decide (p.1 ≠ i)) && C.mks.all fun p => decide (p.1 ≠ i))
theorem lookup_memF : ∀ {l : List (Nat × Str)} {i : Nat} {x : Str}, l.lookup i = some x → (i, x) ∈ l
  | [], _, _, h => by cases h
  | (j, y) :: l, i, x, h => by
    rw [List.lookup_cons] at h
    split at h
    · rename_i e
      have e' := eq_of_beq e
      cases h
      rw [e']; exact List.mem_cons_self
    · exact List.mem_cons_of_mem _ (lookup_memF h)
theorem Knows.swap {P : Program} {w : World} {K : PySem.W.Frag} {mg : Str → Option Value} {base : Heap} {G : Gs} {C : Ctx} {k i : Nat} {m : MSp} (h : Knows P w K mg base G C k) (hl : C.lacks i = true) : Knows P w K mg base (G.set i m) C k := by
  unfold Ctx.lacks at hl
  simp only [Bool.and_eq_true, List.all_eq_true, decide_eq_true_eq] at hl
  obtain ⟨l1, l2, l3⟩ := hl
  exact {
    hot := h.hot
    fns := fun j x e => by rw [Gs.set_ne (l1 _ (lookup_memF e))]; exact h.fns j x e
    mth := fun f c m z => by rw [Gs.set_ne (l2 _ z)]; exact h.mth f c m z
    mks := fun f c m z => by rw [Gs.set_ne (l3 _ z)]; exact h.mks f c m z
    fld := h.fld
    exc := h.exc
    exm := h.exm
    exs := h.exs
    gls := h.gls
    glt := h.glt
    icl := h.icl
    hx := h.hx }
theorem Knows.more {P : Program} {w : World} {K : PySem.W.Frag} {mg : Str → Option Value} {base : Heap} {G : Gs} {C : Ctx} {k : Nat} (h : Knows P w K mg base G C k) : ∀ n, Knows P w K mg base G C (k + n)
  | 0 => h
  | n + 1 => (h.more n).up
theorem rec_sound {P : Program} {w : World} {K : PySem.W.Frag} {mg : Str → Option Value} {base : Heap} {x y qual : Str} {params : Arguments} {body : List Stmt} {scope : Scope} {f : Addr} {fd : FuncData} {N ps : List Str} {k i : Nat} {G : Gs} {C : Ctx}
    (F : FunD K x qual params body scope [] [] f fd) (S : FnScope N ps scope) (ir : ISs) (hchk : chkSs { C with N := N, fns := (i, y) :: C.fns } ir scope body = true) (hC : Knows P w K mg base G C k) (hl : C.lacks i = true) (blt : ∀ x ∈ bltNames, mg x = none)
    (hy : mg y = some (.ref f)) (hk : PySem.W.keepIn K (.ref f) = true) (hb : Binds K fd ps []) (m : Nat → MSp) (h0 : ∀ ws T Q X, ¬ m 0 ws T Q X)
    (hm : ∀ n ws T Q X, m (n + 1) ws T Q X → ws.length = ps.length ∧ wpF (G.set i (m n)) N.length ir ws T Q X) : ∀ n, FnOk P w K mg base (L2.CX P w) (k + n + 1) f fd ps (liftSp K (m n))
  | 0 => by
    refine F.ok S (fun vs H Q E h => ?_) (fun cdv A outer s H vs Q E hr h => ?_)
    · obtain ⟨ws, T, MQ, MX, r, g, hw, _⟩ := h
      exact (h0 _ _ _ _ hw).elim
    · obtain ⟨ws, T, MQ, MX, r, g, hw, _⟩ := h
      exact (h0 _ _ _ _ hw).elim
  | n + 1 => by
    have ih := rec_sound F S ir hchk hC hl blt hy hk hb m h0 hm n
    have hk1 : Knows P w K mg base (G.set i (m n)) { C with fns := (i, y) :: C.fns } (k + n + 1) := Knows.fn (m := m n) ((hC.swap hl).more n) ih Gs.set_same hy hk hb
    exact fn_sound (C := { C with fns := (i, y) :: C.fns }) F S ir hchk hk1 blt (m (n + 1)) fun ws T Q X h => hm n ws T Q X h
end M3
namespace M3
open PySem L2
theorem getv_0 {w : W} {σ : Envr} : getv (some w :: σ) 0 = some w := rfl
theorem getv_s {o : Option W} {σ : Envr} {n : Nat} : getv (o :: σ) (n + 1) = getv σ n := rfl
theorem setv_0 {o u : Option W} {σ : Envr} : List.set (o :: σ) 0 u = u :: σ := rfl
theorem setv_s {o u : Option W} {σ : Envr} {n : Nat} : List.set (o :: σ) (n + 1) u = o :: List.set σ n u := rfl
theorem bin_addI {i j : Int} {Q : W → Prop} : binW .add (.int i) (.int j) Q = Q (.int (i + j)) := rfl
theorem bin_addT {i j : List W} {Q : W → Prop} : binW .add (.tup i) (.tup j) Q = (i.length + j.length ≤ sizeLine ∧ Q (.tup (i ++ j))) := rfl
theorem bin_sub {i j : Int} {Q : W → Prop} : binW .sub (.int i) (.int j) Q = Q (.int (i - j)) := rfl
theorem bin_mul {i j : Int} {Q : W → Prop} : binW .mul (.int i) (.int j) Q = (mulOk i j ∧ Q (.int (i * j))) := rfl
theorem bin_fdiv {i j : Int} {Q : W → Prop} : binW .fdiv (.int i) (.int j) Q = (divOk j ∧ Q (.int (i / j))) := rfl
theorem bin_mod {i j : Int} {Q : W → Prop} : binW .mod (.int i) (.int j) Q = (0 < j ∧ Q (.int (i % j))) := rfl
theorem cmp_lt {i j : Int} {Q : Bool → Prop} : cmpW .lt (.int i) (.int j) Q = Q (decide (i < j)) := rfl
theorem cmp_le {i j : Int} {Q : Bool → Prop} : cmpW .le (.int i) (.int j) Q = Q (decide (i ≤ j)) := rfl
theorem cmp_gt {i j : Int} {Q : Bool → Prop} : cmpW .gt (.int i) (.int j) Q = Q (decide (j < i)) := rfl
theorem cmp_ge {i j : Int} {Q : Bool → Prop} : cmpW .ge (.int i) (.int j) Q = Q (decide (j ≤ i)) := rfl
theorem cmp_eqI {i j : Int} {Q : Bool → Prop} : cmpW .eq (.int i) (.int j) Q = Q (decide (i = j)) := by
  apply propext
  constructor
  · rintro ⟨_, _, h⟩
    have e : W.eqv (.int i) (.int j) = decide (i = j) := by show (i == j) = _; exact Bool.beq_eq_decide_eq i j
    rw [← e]; exact h
  · intro h
    refine ⟨⟨rfl, rfl⟩, ⟨rfl, rfl⟩, ?_⟩
    have e : W.eqv (.int i) (.int j) = decide (i = j) := by show (i == j) = _; exact Bool.beq_eq_decide_eq i j
    rw [e]; exact h
theorem cmp_neI {i j : Int} {Q : Bool → Prop} : cmpW .ne (.int i) (.int j) Q = Q (!decide (i = j)) := by
  apply propext
  have e : W.eqv (.int i) (.int j) = decide (i = j) := by show (i == j) = _; exact Bool.beq_eq_decide_eq i j
  constructor
  · rintro ⟨_, _, h⟩
    rw [← e]; exact h
  · intro h
    refine ⟨⟨rfl, rfl⟩, ⟨rfl, rfl⟩, ?_⟩
    rw [e]; exact h
theorem asBl_bl {b : Bool} {Q : Bool → Prop} : asBl (.bl b) Q = Q b := rfl
theorem if_ff {P Q : Prop} : (if false = true then P else Q) = Q := if_neg (fun h => by cases h)
theorem if_tt {P Q : Prop} : (if true = true then P else Q) = P := if_pos rfl
theorem wipeW_nil {σ : Envr} : wipeW σ [] = σ := rfl
theorem wipeW_cons {σ : Envr} {v : Nat} {vs : List Nat} : wipeW σ (v :: vs) = (wipeW σ vs).set v none := rfl
theorem sizeLine_val : sizeLine = 16777216 := sizeLine_eq
theorem replicate_s {n : Nat} {a : Option W} : List.replicate (n + 1) a = a :: List.replicate n a := rfl
theorem replicate_0 {a : Option W} : List.replicate 0 a = [] := rfl
def ForG (G : Gs) (g : IG) (b : ISs) (D : MEnds) (σ : Envr) (xs : List W) (st : Sto → Prop) (S1 : Sto) : Prop := ∃ I : Nat → Envr → Sto → Prop, (∃ S2, Sub S2 S1 ∧ I 0 σ S2) ∧
      (∀ k x σ' S', xs[k]? = some x → I k σ' S' → st S' ∧ wpG G g x σ' S' (fun σ2 S2 => wpSs G b { D with nx := I (k + 1), ct := I (k + 1), bk := D.nx } σ2 S2) noX) ∧
      ∀ σ' S', I xs.length σ' S' → st S' ∧ D.nx σ' S'
def WhlG (G : Gs) (c : IE) (b : ISs) (D : MEnds) (σ : Envr) (S : Sto) : Prop := ∃ I : Nat → Envr → Sto → Prop, (∃ n S2, Sub S2 S ∧ I n σ S2) ∧ ∀ n σ S, I n σ S →
      wpE G c σ S (fun x S1 => asBl x fun k => if k = true then wpSs G b { D with nx := fun σ' S' => ∃ m, m < n ∧ I m σ' S', ct := fun σ' S' => ∃ m, m < n ∧ I m σ' S', bk := D.nx } σ S1 else D.nx σ S1) (D.ex σ)
def CompG (G : Gs) (e : IE) (g : IG) (own : List Nat) (σ : Envr) (xs : List W) (st : Sto → Prop) (S1 : Sto) (Q : List W → Sto → Prop) : Prop := ∃ I : Nat → List W → Sto → Prop, (∃ S2, Sub S2 S1 ∧ I 0 [] S2) ∧
      (∀ k acc S3 x, xs[k]? = some x → I k acc S3 → st S3 ∧ wpG G g x (wipeW σ own) S3 (fun σ' S4 => wpE G e σ' S4 (fun y S5 => acc.length < sizeLine ∧ I (k + 1) (acc ++ [y]) S5) noX) noX) ∧
      ∀ acc S3, I xs.length acc S3 → st S3 ∧ Q acc S3
def CompIfG (G : Gs) (e c : IE) (g : IG) (own : List Nat) (σ : Envr) (xs : List W) (st : Sto → Prop) (S1 : Sto) (Q : List W → Sto → Prop) : Prop := ∃ I : Nat → List W → Sto → Prop, (∃ S2, Sub S2 S1 ∧ I 0 [] S2) ∧
      (∀ k acc S3 x, xs[k]? = some x → I k acc S3 → st S3 ∧ wpG G g x (wipeW σ own) S3 (fun σ' S4 => wpE G c σ' S4 (fun z S5 => asBl z fun b =>
        if b = true then wpE G e σ' S5 (fun y S6 => acc.length < sizeLine ∧ I (k + 1) (acc ++ [y]) S6) noX else I (k + 1) acc S5) noX) noX) ∧
      ∀ acc S3, I xs.length acc S3 → st S3 ∧ Q acc S3
section
variable {G : Gs} {D : MEnds} {σ : Envr} {S : Sto} {X : XQ} {Q : List W → Sto → Prop}
theorem ws_set {i : Nat} {e : IE} : wpS G (.set i e) D σ S = wpE G e σ S (fun w S1 => D.nx (σ.set i (some w)) S1) (D.ex σ) := rfl
theorem ws_par {i j : Nat} {a b : IE} : wpS G (.par i j a b) D σ S = wpE G a σ S (fun x S1 => wpE G b σ S1 (fun y S2 => D.nx ((σ.set i (some x)).set j (some y)) S2) (D.ex σ)) (D.ex σ) := rfl
theorem ws_asg {g : IG} {e : IE} : wpS G (.asg g e) D σ S = wpE G e σ S (fun w S1 => wpG G g w σ S1 D.nx noX) (D.ex σ) := rfl
theorem ws_aug {i : Nat} {op : BOp} {e : IE} : wpS G (.aug i op e) D σ S = (match getv σ i with
    | some x => wpE G e σ S (fun y S1 => augW op x y fun z => D.nx (σ.set i (some z)) S1) (D.ex σ)
    | none => False) := rfl
theorem ws_exp {e : IE} : wpS G (.exp e) D σ S = wpE G e σ S (fun _ S1 => D.nx σ S1) (D.ex σ) := rfl
theorem ws_ret {e : IE} : wpS G (.ret e) D σ S = wpE G e σ S D.rt (D.ex σ) := rfl
theorem ws_retN : wpS G .retN D σ S = D.rt .non S := rfl
theorem ws_pas : wpS G .pas D σ S = D.nx σ S := rfl
theorem ws_brk : wpS G .brk D σ S = D.bk σ S := rfl
theorem ws_cnt : wpS G .cnt D σ S = D.ct σ S := rfl
theorem ws_iff {c : IE} {a b : ISs} : wpS G (.iff c a b) D σ S = wpE G c σ S (fun x S1 => asBl x fun k => if k = true then wpSs G a D σ S1 else wpSs G b D σ S1) (D.ex σ) := rfl
theorem ws_whl {c : IE} {b : ISs} : wpS G (.whl c b) D σ S = WhlG G c b D σ S := rfl
theorem ws_for {g : IG} {it : II} {b : ISs} : wpS G (.for g it b) D σ S = wpI G it σ S (fun xs st S1 => ForG G g b D σ xs st S1) (D.ex σ) := rfl
theorem wss_nil : wpSs G .nil D σ S = D.nx σ S := rfl
theorem wss_cons {s : IS} {r : ISs} : wpSs G (.cons s r) D σ S = wpS G s { D with nx := wpSs G r D } σ S := rfl
theorem wt_dsp {es : IEs} : wpT G (.dsp es) σ S Q X = wpEs G es σ S (fun ws S1 => ws.length ≤ sizeLine ∧ Q ws S1) X := rfl
theorem wt_cat {a b : IL} : wpT G (.cat a b) σ S Q X = wpL G a σ S (fun xs k1 st S1 => wpL G b σ S1 (fun ys k2 _ S2 => k1 ≠ .tu ∧ k2 ≠ .tu ∧ st S2 ∧ xs.length + ys.length ≤ sizeLine ∧ Q (xs ++ ys) S2) X) X := rfl
theorem wt_slc {a : IL} {lo hi : IO} : wpT G (.slc a lo hi) σ S Q X = wpL G a σ S (fun xs k st S1 => wpO G lo σ S1 (fun l S2 => wpO G hi σ S2 (fun h S3 => k ≠ .tu ∧ st S3 ∧ Q (cutW xs l h) S3) X) X) X := rfl
theorem wt_rev {a : IL} : wpT G (.rev a) σ S Q X = wpL G a σ S (fun xs k _ S1 => k ≠ .tu ∧ Q xs.reverse S1) X := rfl
theorem wt_lst {a : IL} : wpT G (.lst a) σ S Q X = wpL G a σ S (fun xs _ _ S1 => Q xs S1) X := rfl
theorem wt_chr {a : IE} : wpT G (.chr a) σ S Q X = wpE G a σ S (fun x S1 => chrW x fun ws => Q ws S1) X := rfl
theorem wt_srt {a : IL} : wpT G (.srt a) σ S Q X = wpL G a σ S (fun xs k _ S1 => k ≠ .tu ∧ srtW xs fun ys => Q ys S1) X := rfl
theorem wt_sset {a : IL} : wpT G (.sset a) σ S Q X = wpL G a σ S (fun xs k _ S1 => k ≠ .tu ∧ sSetW xs fun ys => Q ys S1) X := rfl
theorem wt_comp {e : IE} {g : IG} {it : II} {own : List Nat} : wpT G (.comp e g it own) σ S Q X = wpI G it σ S (fun xs st S1 => CompG G e g own σ xs st S1 Q) X := rfl
theorem wt_compif {e c : IE} {g : IG} {it : II} {own : List Nat} : wpT G (.compif e c g it own) σ S Q X = wpI G it σ S (fun xs st S1 => CompIfG G e c g own σ xs st S1 Q) X := rfl
variable {g : IG} {b : ISs} {xs : List W} {st : Sto → Prop} {S1 : Sto}
theorem ForG.by (I : Nat → Envr → Sto → Prop) (S2 : Sto) (sub : Sub S2 S1) (h0 : I 0 σ S2)
    (step : ∀ k x σ' S', xs[k]? = some x → I k σ' S' → st S' ∧ wpG G g x σ' S' (fun σ2 S2 => wpSs G b { D with nx := I (k + 1), ct := I (k + 1), bk := D.nx } σ2 S2) noX)
    (fin : ∀ σ' S', I xs.length σ' S' → st S' ∧ D.nx σ' S') : ForG G g b D σ xs st S1 := ⟨I, ⟨S2, sub, h0⟩, step, fin⟩
theorem WhlG.by {c : IE} (I : Nat → Envr → Sto → Prop) (n : Nat) (S2 : Sto) (sub : Sub S2 S) (h0 : I n σ S2)
    (step : ∀ n σ S, I n σ S → wpE G c σ S (fun x S1 => asBl x fun k => if k = true then wpSs G b { D with nx := fun σ' S' => ∃ m, m < n ∧ I m σ' S', ct := fun σ' S' => ∃ m, m < n ∧ I m σ' S', bk := D.nx } σ S1 else D.nx σ S1) (D.ex σ)) : WhlG G c b D σ S := ⟨I, ⟨n, S2, sub, h0⟩, step⟩
theorem CompG.map {α : Type} {e : IE} {own : List Nat} (l : List α) (enc f : α → W) (hx : xs = l.map enc) (hl : l.length ≤ 16777216) (hst : st S1)
    (h : ∀ a ∈ l, ∀ Q' : WQ, Q' (f a) S1 → wpG G g (enc a) (wipeW σ own) S1 (fun σ' S4 => wpE G e σ' S4 Q' noX) noX) (hq : Q (l.map f) S1) : CompG G e g own σ xs st S1 Q := by
  subst hx
  refine ⟨fun k acc S3 => S3 = S1 ∧ acc = (l.take k).map f, ⟨S1, Sub.refl _, rfl, by simp⟩, ?_, ?_⟩
  · rintro k acc S3 x hx ⟨rfl, rfl⟩
    rw [List.getElem?_map] at hx
    cases e : l[k]? with
    | none => rw [e] at hx; cases hx
    | some a =>
      rw [e] at hx
      cases hx
      have hk := (List.getElem?_eq_some_iff.mp e).1
      refine ⟨hst, h a (List.mem_of_getElem? e) _ ⟨?_, rfl, ?_⟩⟩
      · rw [List.length_map, List.length_take, sizeLine_val]; omega
      · rw [List.take_succ, e]; simp
  · rintro acc S3 ⟨rfl, rfl⟩
    rw [List.length_map, List.take_length]
    exact ⟨hst, hq⟩
theorem CompIfG.map {α : Type} {e c : IE} {own : List Nat} (l : List α) (enc f : α → W) (p : α → Bool) (hx : xs = l.map enc) (hl : l.length ≤ 16777216) (hst : st S1)
    (h : ∀ a ∈ l, ∀ (Q' : WQ) (R : Sto → Prop), (p a = true → Q' (f a) S1) → (p a = false → R S1) → wpG G g (enc a) (wipeW σ own) S1 (fun σ' S4 => wpE G c σ' S4 (fun z S5 => asBl z fun b => if b = true then wpE G e σ' S5 Q' noX else R S5) noX) noX)
    (hq : Q ((l.filter p).map f) S1) : CompIfG G e c g own σ xs st S1 Q := by
  subst hx
  refine ⟨fun k acc S3 => S3 = S1 ∧ acc = ((l.take k).filter p).map f, ⟨S1, Sub.refl _, rfl, by simp⟩, ?_, ?_⟩
  · rintro k acc S3 x hx ⟨rfl, rfl⟩
    rw [List.getElem?_map] at hx
    cases e : l[k]? with
    | none => rw [e] at hx; cases hx
    | some a =>
      rw [e] at hx
      cases hx
      have hk := (List.getElem?_eq_some_iff.mp e).1
      refine ⟨hst, h a (List.mem_of_getElem? e) _ _ (fun hp => ⟨?_, rfl, ?_⟩) fun hp => ⟨rfl, ?_⟩⟩
      · have h1 := List.length_filter_le p (l.take k)
        rw [List.length_map, sizeLine_val]
        rw [List.length_take] at h1
        omega
      · rw [List.take_succ, e, List.filter_append]; simp [hp]
      · rw [List.take_succ, e, List.filter_append]; simp [hp]
  · rintro acc S3 ⟨rfl, rfl⟩
    rw [List.length_map, List.take_length]
    exact ⟨hst, hq⟩
end
theorem idx_tup {ws : List W} {i : Int} {S : Sto} : idxW (.tup ws) (.int i) S = atI ws i := rfl
theorem idx_rol {ws : List W} {i : Int} {S : Sto} : idxW (.rol ws) (.int i) S = atI ws i := rfl
theorem idx_ref {a : Addr} {i : Int} {S : Sto} : idxW (.ref a) (.int i) S = (match S a with
    | some (.lst ws) => atI ws i
    | some (.dk _ kvs) => valD kvs (.inl i)
    | _ => none) := by
  unfold idxW
  dsimp only
  cases S a with
  | none => rfl
  | some o => cases o <;> rfl
theorem set_refI {a : Addr} {k : Int} {w : W} {S : Sto} {Q : Sto → Prop} : setW (.ref a) (.int k) w S Q = (match S a with
    | some (.lst ws) => (match ixN ws.length k with
      | some j => Q (put S a (.lst (ws.set j w)))
      | none => False)
    | some (.dk false kvs) => kvs.length < sizeLine ∧ Q (put S a (.dk false (putD kvs (.inl k) w)))
    | _ => False) := by
  unfold setW
  dsimp only
  cases S a with
  | none => rfl
  | some o => cases o with
    | lst ws => rfl
    | ins C fs => rfl
    | dk fz kvs => cases fz <;> rfl
    | dt fz kvs => cases fz <;> rfl
    | dn kvs => rfl
theorem ixN_0 {n : Nat} : ixN (n + 1) 0 = some 0 := by unfold ixN; rw [if_pos (by omega), if_pos (by omega)]; rfl
theorem ixN_1 {n : Nat} : ixN (n + 2) 1 = some 1 := by unfold ixN; rw [if_pos (by omega), if_pos (by omega)]; rfl
theorem ixN_2 {n : Nat} : ixN (n + 3) 2 = some 2 := by unfold ixN; rw [if_pos (by omega), if_pos (by omega)]; rfl
theorem ixN_3 {n : Nat} : ixN (n + 4) 3 = some 3 := by unfold ixN; rw [if_pos (by omega), if_pos (by omega)]; rfl
theorem atI_0 {α : Type} {a : α} {r : List α} : atI (a :: r) 0 = some a := by unfold atI; rw [List.length_cons, ixN_0]; rfl
theorem atI_1 {α : Type} {a b : α} {r : List α} : atI (a :: b :: r) 1 = some b := by unfold atI; rw [List.length_cons, List.length_cons, ixN_1]; rfl
theorem atI_2 {α : Type} {a b c : α} {r : List α} : atI (a :: b :: c :: r) 2 = some c := by unfold atI; rw [List.length_cons, List.length_cons, List.length_cons, ixN_2]; rfl
theorem atI_3 {α : Type} {a b c d : α} {r : List α} : atI (a :: b :: c :: d :: r) 3 = some d := by unfold atI; rw [List.length_cons, List.length_cons, List.length_cons, List.length_cons, ixN_3]; rfl
theorem atI_m1 {α : Type} {xs : List α} {v : α} : atI (xs ++ [v]) (-1) = some v := atI_last xs v
theorem atI_in {α : Type} {xs : List α} {i : Int} (h0 : 0 ≤ i) (h1 : i < xs.length) : ∃ v, atI xs i = some v ∧ v ∈ xs := by
  obtain ⟨k, rfl⟩ := Int.eq_ofNat_of_zero_le h0
  have hk : k < xs.length := by omega
  exact ⟨xs[k], atI_nat (List.getElem?_eq_getElem hk), List.getElem_mem hk⟩
theorem put_mid {S : Sto} {p q : Addr} {o u o' : MO} (h : q ≠ p) : put (put (put S p o) q u) p o' = put (put S p o') q u := by
  rw [put_comm h, put_put]
theorem put_at {S : Sto} {p q : Addr} {o u : MO} (h : p ≠ q) : put (put S p o) q u p = some o := by rw [put_ne h, put_same]
theorem ne_new {S : Sto} {p q : Addr} {o : MO} (h : S p = some o) (hq : S q = none) : q ≠ p := by rintro rfl; rw [h] at hq; cases hq
theorem ForG.map {α : Type} {G : Gs} {D : MEnds} {σ : Envr} {g : IG} {b : ISs} {xs : List W} {st : Sto → Prop} {S1 : Sto} (l : List α) (enc : α → W) (hx : xs = l.map enc)
    (I : List α → List α → Envr → Sto → Prop) (S2 : Sto) (sub : Sub S2 S1) (h0 : I [] l σ S2)
    (step : ∀ d a r σ' S', l = d ++ a :: r → I d (a :: r) σ' S' → st S' ∧ wpG G g (enc a) σ' S' (fun σ2 S2 => wpSs G b { D with nx := I (d ++ [a]) r, ct := I (d ++ [a]) r, bk := D.nx } σ2 S2) noX)
    (fin : ∀ σ' S', I l [] σ' S' → st S' ∧ D.nx σ' S') : ForG G g b D σ xs st S1 := by
  subst hx
  refine ForG.by (fun k => I (l.take k) (l.drop k)) S2 sub (by simpa using h0) ?_ ?_
  · intro k x σ' S' hx hI
    rw [List.getElem?_map] at hx
    cases e : l[k]? with
    | none => rw [e] at hx; cases hx
    | some a =>
      rw [e] at hx
      cases hx
      obtain ⟨hk, ea⟩ := List.getElem?_eq_some_iff.mp e
      have e1 : l.drop k = a :: l.drop (k + 1) := by rw [List.drop_eq_getElem_cons hk, ea]
      have e2 : l.take (k + 1) = l.take k ++ [a] := by rw [List.take_succ, e]; rfl
      have h := step (l.take k) a (l.drop (k + 1)) σ' S' (by rw [← e1, List.take_append_drop]) (by rw [← e1]; exact hI)
      rw [← e2] at h
      exact h
  · intro σ' S' hI
    rw [List.length_map, List.take_length, List.drop_length] at hI
    exact fin σ' S' hI
theorem len_tup {ws : List W} {S : Sto} : lenW (.tup ws) S = some ws.length := rfl
theorem len_rol {ws : List W} {S : Sto} : lenW (.rol ws) S = some ws.length := rfl
theorem len_ref {a : Addr} {S : Sto} : lenW (.ref a) S = (match S a with
    | some (.lst ws) => some ws.length
    | some (.dk false kvs) => some kvs.length
    | some (.dt false kvs) => some kvs.length
    | _ => none) := rfl
theorem isa_tupT {ws : List W} {S : Sto} : isaW (.tup ws) "tuple" S = some true := rfl
theorem isa_intI {i : Int} {S : Sto} : isaW (.int i) "int" S = some true := rfl
theorem isa_intB {i : Int} {S : Sto} : isaW (.int i) "bool" S = some false := rfl
theorem isa_blB {i : Bool} {S : Sto} : isaW (.bl i) "bool" S = some true := rfl
theorem isa_blI {i : Bool} {S : Sto} : isaW (.bl i) "int" S = some true := rfl
theorem isa_refL {a : Addr} {S : Sto} : isaW (.ref a) "list" S = (match S a with
    | some (.lst _) => some true
    | some (.dk false _) => some false
    | some (.dt false _) => some false
    | _ => none) := by
  unfold isaW tyW
  dsimp only
  cases S a with
  | none => rfl
  | some o => cases o with
    | lst ws => rfl
    | ins C fs => rfl
    | dk fz kvs => cases fz <;> rfl
    | dt fz kvs => cases fz <;> rfl
    | dn kvs => rfl
theorem isNon_int {i : Int} : isNon (.int i) = false := rfl
theorem isNon_tup {ws : List W} : isNon (.tup ws) = false := rfl
theorem isNon_non : isNon .non = true := rfl
theorem nc0 : ((0 : Nat) : Int) = 0 := rfl
theorem nc1 : ((1 : Nat) : Int) = 1 := rfl
theorem nc2 : ((2 : Nat) : Int) = 2 := rfl
theorem nc3 : ((3 : Nat) : Int) = 3 := rfl
theorem nc4 : ((4 : Nat) : Int) = 4 := rfl
theorem bff : (false == false) = true := rfl
theorem btf : (true == false) = false := rfl
theorem btt : (true == true) = true := rfl
theorem bft : (false == true) = false := rfl
local macro_rules | `(tactic| walk_at "wp") => `(tactic| try simp only [wss_nil, wss_cons, ws_set, ws_par, ws_asg, ws_aug, ws_exp, ws_ret, ws_retN, ws_pas, ws_brk, ws_cnt, ws_iff, ws_whl, ws_for, wpE, wpEs, wpO, wt_dsp, wt_cat, wt_slc, wt_rev, wt_lst, wt_chr, wt_srt, wt_sset, wt_comp, wt_compif, wpL, wpG, wpGs, wpI, getv_0, getv_s, setv_0, setv_s, bin_addI, bin_sub, bin_mul, bin_fdiv, bin_mod, cmp_lt, cmp_le, cmp_gt, cmp_ge, cmp_eqI, cmp_neI, asBl_bl, if_ff, if_tt, wipeW_nil, wipeW_cons, List.length_cons, List.length_nil, IGs.len, replicate_s, replicate_0, List.map_cons, List.map_nil, List.cons_append, List.nil_append, Nat.reduceSub, Nat.reduceAdd, true_and, put_same, isLst, idx_tup, idx_rol, idx_ref, set_refI, atI_0, atI_1, atI_2, atI_3, ixN_0, ixN_1, ixN_2, ixN_3, put_put, decide_eq_true_eq, len_tup, len_rol, len_ref, isa_tupT, isa_intI, isa_intB, isa_blB, isa_blI, isa_refL, isNon_int, isNon_tup, isNon_non, nc0, nc1, nc2, nc3, nc4, bff, btf, btt, bft, eq_self, decide_true, if_true, if_false, Bool.not_true, Bool.not_false])
def Tap (n : Nat) (o : MO) : Prop := ∃ x y z : Int, o = .lst [.int x, .int y, .int z] ∧ y.natAbs.log2 < 3000000 ∧ 0 ≤ z ∧ z ≤ n
theorem Tap.mono {n m : Nat} {o : MO} (h : Tap n o) (k : n ≤ m) : Tap m o := by
  obtain ⟨x, y, z, a, b, c, d⟩ := h
  exact ⟨x, y, z, a, b, c, by omega⟩
def N_law_tap : List Str := ["cell"]
def ir_law_tap : ISs := .cons (.ret (.mat (.dsp (.cons (.mx (.cst (.int 0)) (.bin .sub (.var 0) (.cst (.int 1000000000000000000)))) (.cons (.bin .add (.bin .mul (.var 0) (.cst (.int 656540377228301121999203379166631521))) (.cst (.int 57721566490153286060651209008240243))) (.cons (.cst (.int 0)) .nil)))))) .nil
def sp_law_tap : MSp := fun ws S Q _ => ∃ c : Int, ws = [.int c] ∧ c.natAbs.log2 < 2000000 ∧ ∀ p o, S p = none → Tap 0 o → Q (.ref p) (put S p o)
def N_law_next : List Str := ["tap", "many", "found"]
def ir_law_next : ISs := .cons (.iff (.cmp .gt (.idx (.var 0) (.cst (.int 0))) (.cst (.int 1))) (.cons (.set 2 (.bin .mod (.idx (.var 0) (.cst (.int 0))) (.var 1))) (.cons (.asg (.sub (.var 0) (.cst (.int 0))) (.bin .fdiv (.idx (.var 0) (.cst (.int 0))) (.var 1))) (.cons (.ret (.var 2)) .nil))) (.nil)) (.cons (.asg (.sub (.var 0) (.cst (.int 2))) (.bin .add (.idx (.var 0) (.cst (.int 2))) (.cst (.int 1)))) (.cons (.asg (.sub (.var 0) (.cst (.int 1))) (.bin .mod (.bin .add (.bin .mul (.idx (.var 0) (.cst (.int 1))) (.idx (.var 0) (.cst (.int 1)))) (.bin .mul (.idx (.var 0) (.cst (.int 2))) (.cst (.int 965211250482432409)))) (.cst (.int 100000000000000000000000000000000000000000000000151)))) (.cons (.ret (.bin .mod (.bin .fdiv (.idx (.var 0) (.cst (.int 1))) (.cst (.int 1048573))) (.var 1))) .nil)))
def sp_law_next : MSp := fun ws S Q _ => ∃ (p : Addr) (m : Int) (o : MO) (n : Nat), ws = [.ref p, .int m] ∧ S p = some o ∧ Tap n o ∧ n ≤ 10000000 ∧ 0 < m ∧ m.natAbs.log2 < 9000 ∧
  ∀ (r : Int) (o' : MO), 0 ≤ r → r < m → Tap (n + 1) o' → Q (.int r) (put S p o')
theorem sp_law_next.use {p : Addr} {m : Int} {o : MO} {n : Nat} {S : Sto} {Q : WQ} {X : XQ} (hS : S p = some o) (ht : Tap n o) (hn : n ≤ 10000000) (hm : 0 < m) (hl : m < 2 ^ 200)
    (h : ∀ (r : Int) (o' : MO), 0 ≤ r → r < m → Tap (n + 1) o' → Q (.int r) (put S p o')) : sp_law_next [.ref p, .int m] S Q X :=
  ⟨p, m, o, n, rfl, hS, ht, hn, hm, by
    have h1 : m.natAbs < 2 ^ 200 := by omega
    have h2 := (Nat.log2_lt (n := m.natAbs) (k := 200) (by omega)).2 h1
    omega, h⟩
theorem log2_mul_add (c : Int) (a b k : Nat) (h : c.natAbs.log2 < k) (ha : a < 2 ^ 200) (hb : b < 2 ^ 200) : (c * a + b).natAbs.log2 < k + 202 := by
  have h1 : c.natAbs < 2 ^ k := by
    by_cases z : c.natAbs = 0
    · rw [z]; exact Nat.two_pow_pos k
    · exact (Nat.log2_lt z).1 h
  have h2 : (c * a + b).natAbs ≤ c.natAbs * a + b := by
    refine Nat.le_trans (Int.natAbs_add_le _ _) ?_
    rw [Int.natAbs_mul]
    exact Nat.le_refl _
  have h3 : c.natAbs * a + b < 2 ^ (k + 202) := by
    have e : (2 : Nat) ^ (k + 202) = 2 ^ k * 2 ^ 200 * 4 := by rw [Nat.pow_add, Nat.mul_assoc]
    have h4 : c.natAbs * a ≤ 2 ^ k * 2 ^ 200 := Nat.mul_le_mul (Nat.le_of_lt h1) (Nat.le_of_lt ha)
    have h5 : 2 ^ 200 ≤ 2 ^ k * 2 ^ 200 := Nat.le_mul_of_pos_left _ (Nat.two_pow_pos k)
    omega
  by_cases z : (c * a + b).natAbs = 0
  · rw [z]; show 0 < _; omega
  · exact (Nat.log2_lt z).2 (Nat.lt_of_le_of_lt h2 h3)
theorem pf_law_tap (G : Gs) (ws : List W) (S : Sto) (Q : WQ) (X : XQ) (h : sp_law_tap ws S Q X) : ws.length = 1 ∧ wpF G 1 ir_law_tap ws S Q X := by
  obtain ⟨c, rfl, hc, hq⟩ := h
  refine ⟨rfl, ?_⟩
  unfold wpF ir_law_tap
  walk_at "wp"
  refine ⟨?_, by rw [sizeLine_val]; decide, fun p hp => ⟨_, Sub.refl _, hq p _ hp ⟨_, _, _, rfl, ?_, by omega, by omega⟩⟩⟩
  · unfold mulOk
    have : (656540377228301121999203379166631521 : Int).natAbs.log2 < 200 := by decide +kernel
    omega
  · have h := log2_mul_add c 656540377228301121999203379166631521 57721566490153286060651209008240243 2000000 hc (by decide +kernel) (by decide +kernel)
    refine Nat.lt_trans h (by omega)
theorem log2_lt_of {n k : Nat} (h : n < 2 ^ k) (hk : 0 < k) : n.log2 < k := by
  by_cases z : n = 0
  · subst z; exact hk
  · exact (Nat.log2_lt z).2 h
theorem pf_law_next (G : Gs) (ws : List W) (S : Sto) (Q : WQ) (X : XQ) (h : sp_law_next ws S Q X) : ws.length = 2 ∧ wpF G 3 ir_law_next ws S Q X := by
  obtain ⟨p, m, o, n, rfl, hS, ⟨x, y, z, rfl, hy, hz0, hz⟩, hn, hm, hl, hq⟩ := h
  refine ⟨rfl, ?_⟩
  unfold wpF ir_law_next
  walk_at "wp"
  simp only [hS, atI_0, cmp_gt, asBl_bl, decide_eq_true_eq]
  by_cases h1 : 1 < x
  · rw [if_pos h1]
    walk_at "wp"
    refine ⟨hm, ⟨hm, hl⟩, _, Sub.refl _, hq _ _ (Int.emod_nonneg _ (by omega)) (Int.emod_lt_of_pos _ hm) ⟨_, _, _, rfl, hy, by omega, by omega⟩⟩
  · rw [if_neg h1]
    walk_at "wp"
    have e1 : (0 : Int) ≤ (y * y + (z + 1) * 965211250482432409) % 100000000000000000000000000000000000000000000000151 := Int.emod_nonneg _ (by decide)
    have e2 : (y * y + (z + 1) * 965211250482432409) % 100000000000000000000000000000000000000000000000151 < 100000000000000000000000000000000000000000000000151 := Int.emod_lt_of_pos _ (by decide)
    refine ⟨?_, ?_, by decide, ⟨by decide, by decide +kernel⟩, hm, _, Sub.refl _, hq _ _ (Int.emod_nonneg _ (by omega)) (Int.emod_lt_of_pos _ hm) ⟨_, _, _, rfl, ?_, by omega, by omega⟩⟩
    · unfold mulOk; omega
    · unfold mulOk
      have : (z + 1).natAbs.log2 < 100 := log2_lt_of (by omega) (by decide)
      have h2 : (965211250482432409 : Int).natAbs.log2 < 100 := by decide +kernel
      omega
    · refine Nat.lt_trans (log2_lt_of (k := 200) ?_ (by decide)) (by decide)
      omega
structure EncOk {α : Type} [DecidableEq α] (d : Nat) (enc : α → W) : Prop where
  pr : ∀ a, (enc a).pure = true
  ly : ∀ a, (enc a).dat.canLay0 = true
  dp : ∀ a, (enc a).dat.depth ≤ d
  eq : ∀ a b, PyData.eqv (enc a).dat (enc b).dat = decide (a = b)
section
variable {α β γ δ : Type} [DecidableEq α] [DecidableEq β] [DecidableEq γ] [DecidableEq δ] {d : Nat} {e : α → W} {e2 : β → W} {e3 : γ → W} {e4 : δ → W}
theorem EncOk.int : EncOk d W.int := ⟨fun _ => rfl, fun _ => rfl, fun _ => Nat.zero_le _, fun a b => by show (a == b) = _; exact Bool.beq_eq_decide_eq a b⟩
theorem EncOk.prs (h : EncOk d e) (l : List α) : W.pures (l.map e) = true := by
  induction l with
  | nil => rfl
  | cons a l ih => rw [List.map_cons, W.pures, h.pr, ih]; rfl
theorem EncOk.lys (h : EncOk d e) (l : List α) : PyData.canLayAll0 (W.dats (l.map e)) = true := by
  induction l with
  | nil => rfl
  | cons a l ih => rw [List.map_cons, W.dats, PyData.canLayAll0, h.ly, ih]; rfl
theorem EncOk.dps (h : EncOk d e) (l : List α) : PyData.depthAll (W.dats (l.map e)) ≤ d := by
  induction l with
  | nil => exact Nat.zero_le _
  | cons a l ih => rw [List.map_cons, W.dats, PyData.depthAll]; exact Nat.max_le.mpr ⟨h.dp a, ih⟩
theorem EncOk.eqs (h : EncOk d e) : ∀ l m : List α, PyData.eqvAll (W.dats (l.map e)) (W.dats (m.map e)) = decide (l = m)
  | [], [] => by simp [W.dats, PyData.eqvAll]
  | [], _ :: _ => by simp [W.dats, PyData.eqvAll]
  | _ :: _, [] => by simp [W.dats, PyData.eqvAll]
  | a :: l, b :: m => by
    rw [List.map_cons, List.map_cons, W.dats, W.dats, PyData.eqvAll, h.eq, EncOk.eqs h l m, ← Bool.decide_and]
    exact decide_eq_decide.mpr (by rw [List.cons.injEq])
theorem EncOk.list (h : EncOk d e) : EncOk (d + 1) (fun l : List α => W.tup (l.map e)) where
  pr l := by show W.pures _ = true; exact h.prs l
  ly l := by show PyData.canLayAll0 _ = true; exact h.lys l
  dp l := by show PyData.depthAll _ + 1 ≤ d + 1; exact Nat.succ_le_succ (h.dps l)
  eq l m := by show PyData.eqvAll _ _ = _; exact h.eqs l m
theorem EncOk.t2 (h : EncOk d e) (h2 : EncOk d e2) : EncOk (d + 1) (fun p : α × β => W.tup [e p.1, e2 p.2]) where
  pr p := by show ((e p.1).pure && ((e2 p.2).pure && true)) = true; rw [h.pr, h2.pr]; rfl
  ly p := by show ((e p.1).dat.canLay0 && ((e2 p.2).dat.canLay0 && true)) = true; rw [h.ly, h2.ly]; rfl
  dp p := by
    show max (e p.1).dat.depth (max (e2 p.2).dat.depth 0) + 1 ≤ d + 1
    have h1 := h.dp p.1
    have h2 := h2.dp p.2
    omega
  eq p q := by
    show (PyData.eqv (e p.1).dat (e q.1).dat && (PyData.eqv (e2 p.2).dat (e2 q.2).dat && true)) = _
    rw [h.eq, h2.eq, Bool.and_true, ← Bool.decide_and]
    exact decide_eq_decide.mpr (by cases p; cases q; simp)
theorem EncOk.t3 (h : EncOk d e) (h2 : EncOk d e2) (h3 : EncOk d e3) : EncOk (d + 1) (fun p : α × β × γ => W.tup [e p.1, e2 p.2.1, e3 p.2.2]) where
  pr p := by show ((e p.1).pure && ((e2 p.2.1).pure && ((e3 p.2.2).pure && true))) = true; rw [h.pr, h2.pr, h3.pr]; rfl
  ly p := by show ((e p.1).dat.canLay0 && ((e2 p.2.1).dat.canLay0 && ((e3 p.2.2).dat.canLay0 && true))) = true; rw [h.ly, h2.ly, h3.ly]; rfl
  dp p := by
    show max (e p.1).dat.depth (max (e2 p.2.1).dat.depth (max (e3 p.2.2).dat.depth 0)) + 1 ≤ d + 1
    have h1 := h.dp p.1
    have h2 := h2.dp p.2.1
    have h3 := h3.dp p.2.2
    omega
  eq p q := by
    show (PyData.eqv (e p.1).dat (e q.1).dat && (PyData.eqv (e2 p.2.1).dat (e2 q.2.1).dat && (PyData.eqv (e3 p.2.2).dat (e3 q.2.2).dat && true))) = _
    rw [h.eq, h2.eq, h3.eq, Bool.and_true, ← Bool.decide_and, ← Bool.decide_and]
    exact decide_eq_decide.mpr (by obtain ⟨_, _, _⟩ := p; obtain ⟨_, _, _⟩ := q; simp)
theorem EncOk.t4 (h : EncOk d e) (h2 : EncOk d e2) (h3 : EncOk d e3) (h4 : EncOk d e4) : EncOk (d + 1) (fun p : α × β × γ × δ => W.tup [e p.1, e2 p.2.1, e3 p.2.2.1, e4 p.2.2.2]) where
  pr p := by show ((e p.1).pure && ((e2 p.2.1).pure && ((e3 p.2.2.1).pure && ((e4 p.2.2.2).pure && true)))) = true; rw [h.pr, h2.pr, h3.pr, h4.pr]; rfl
  ly p := by show ((e p.1).dat.canLay0 && ((e2 p.2.1).dat.canLay0 && ((e3 p.2.2.1).dat.canLay0 && ((e4 p.2.2.2).dat.canLay0 && true)))) = true; rw [h.ly, h2.ly, h3.ly, h4.ly]; rfl
  dp p := by
    show max (e p.1).dat.depth (max (e2 p.2.1).dat.depth (max (e3 p.2.2.1).dat.depth (max (e4 p.2.2.2).dat.depth 0))) + 1 ≤ d + 1
    have h1 := h.dp p.1
    have h2 := h2.dp p.2.1
    have h3 := h3.dp p.2.2.1
    have h4 := h4.dp p.2.2.2
    omega
  eq p q := by
    show (PyData.eqv (e p.1).dat (e q.1).dat && (PyData.eqv (e2 p.2.1).dat (e2 q.2.1).dat && (PyData.eqv (e3 p.2.2.1).dat (e3 q.2.2.1).dat && (PyData.eqv (e4 p.2.2.2).dat (e4 q.2.2.2).dat && true)))) = _
    rw [h.eq, h2.eq, h3.eq, h4.eq, Bool.and_true, ← Bool.decide_and, ← Bool.decide_and, ← Bool.decide_and]
    exact decide_eq_decide.mpr (by obtain ⟨_, _, _, _⟩ := p; obtain ⟨_, _, _, _⟩ := q; simp)
theorem EncOk.eqOk (h : EncOk d e) (hd : d ≤ 60) (a : α) : (e a).eqOk := ⟨h.pr a, by
  unfold SeqAt.shaped
  rw [h.ly, decide_eq_true (by have := h.dp a; omega)]; rfl⟩
theorem EncOk.eqsOk (h : EncOk d e) (hd : d ≤ 60) (l : List α) : W.eqsOk (l.map e) := ⟨h.prs l, by
  unfold SeqAt.shaped
  have h1 : (PyData.list (W.dats (l.map e))).canLay0 = true := h.lys l
  have h2 : (PyData.list (W.dats (l.map e))).depth ≤ d + 1 := Nat.succ_le_succ (h.dps l)
  rw [h1, decide_eq_true (by omega)]; rfl⟩
theorem EncOk.eqvs (h : EncOk d e) (l m : List α) : W.eqvs (l.map e) (m.map e) = decide (l = m) := h.eqs l m
theorem EncOk.cmpEq (h : EncOk d e) (hd : d ≤ 60) {a b : α} {Q : Bool → Prop} : cmpW .eq (e a) (e b) Q = Q (decide (a = b)) := by
  apply propext
  have k : W.eqv (e a) (e b) = decide (a = b) := h.eq a b
  constructor
  · rintro ⟨_, _, q⟩; rw [k] at q; exact q
  · intro q; exact ⟨h.eqOk hd a, h.eqOk hd b, by rw [k]; exact q⟩
end
theorem cutW_hd {α : Type} {a : α} {l : List α} : cutW (a :: l) none (some 1) = [a] := by
  unfold cutW HT.sIx
  simp
theorem cutW_lst {α : Type} {a : α} {l : List α} : cutW (l ++ [a]) (some (-1)) none = [a] := by
  unfold cutW HT.sIx
  have e : ((-1 : Int) + ((l ++ [a]).length : Int)).toNat = l.length := by simp; omega
  dsimp only
  rw [if_pos (by decide), e]
  simp
abbrev Sps := List (Int × Int)
abbrev Rg := List (Int × Int × Sps)
def stW (p : Int × Int) : W := .tup [.int p.1, .int p.2]
def spsW (s : Sps) : W := .tup (s.map stW)
def bdW (b : Int × Int × Sps) : W := .tup [.int b.1, .int b.2.1, spsW b.2.2]
def rgW (r : Rg) : W := .tup (r.map bdW)
def Chn {α : Type} (R : α → α → Prop) (l : List α) : Prop := ∀ i a b, l[i]? = some a → l[i + 1]? = some b → R a b
theorem Chn.nil {α : Type} {R : α → α → Prop} : Chn R [] := fun i a b h _ => by simp at h
theorem Chn.one {α : Type} {R : α → α → Prop} {x : α} : Chn R [x] := fun i a b _ h => by simp at h
theorem Chn.snoc {α : Type} {R : α → α → Prop} {l : List α} {x : α} (h : Chn R l) (hx : ∀ a, l.getLast? = some a → R a x) : Chn R (l ++ [x]) := fun i a b h1 h2 => by
  rw [List.getElem?_append] at h1 h2
  by_cases h3 : i + 1 < l.length
  · rw [if_pos h3] at h2
    rw [if_pos (by omega)] at h1
    exact h i a b h1 h2
  · rw [if_neg h3] at h2
    have h4 : i + 1 - l.length = 0 := by
      cases e : i + 1 - l.length with
      | zero => rfl
      | succ n => rw [e] at h2; simp at h2
    rw [h4] at h2
    have h5 : i < l.length := by omega
    rw [if_pos h5] at h1
    cases h2
    refine hx a ?_
    rw [List.getLast?_eq_getElem?, ← h1]
    congr 1
    omega
theorem Chn.last {α : Type} {R : α → α → Prop} {d r : List α} {x y : α} (h : Chn R (d ++ x :: r)) (e : d.getLast? = some y) : R y x := by
  rw [List.getLast?_eq_getElem?] at e
  have hl : d.length ≠ 0 := by
    intro z
    rw [List.length_eq_zero_iff.mp z] at e
    simp at e
  refine h (d.length - 1) y x ?_ ?_
  · rw [List.getElem?_append, if_pos (by omega)]; exact e
  · rw [List.getElem?_append, if_neg (by omega)]
    have : d.length - 1 + 1 - d.length = 0 := by omega
    rw [this]; rfl
theorem Chn.map {α β : Type} {R : α → α → Prop} {T : β → β → Prop} {f : α → β} {l : List α} (h : Chn R l) (hf : ∀ a b, R a b → T (f a) (f b)) : Chn T (l.map f) := fun i a b h1 h2 => by
  rw [List.getElem?_map] at h1 h2
  cases e1 : l[i]? with
  | none => rw [e1] at h1; cases h1
  | some x =>
    cases e2 : l[i + 1]? with
    | none => rw [e2] at h2; cases h2
    | some y =>
      rw [e1] at h1; rw [e2] at h2
      cases h1; cases h2
      exact hf _ _ (h i x y e1 e2)
structure SpOk (s : Sps) : Prop where
  ne : s ≠ []
  len : s.length ≤ 40
  pos : ∀ p ∈ s, p.1 < p.2
  chn : Chn (fun p q => p.2 < q.1) s
structure RgOk (r : Rg) : Prop where
  len : r.length ≤ 40
  bd : ∀ b ∈ r, b.1 < b.2.1 ∧ SpOk b.2.2
  chn : Chn (fun b c => b.2.1 < c.1 ∨ b.2.1 = c.1 ∧ b.2.2 ≠ c.2.2) r
def SpBig (c : Int) (s : Sps) : Prop := ∀ p ∈ s, -c < p.1 ∧ p.2 < c
def RgBig (c : Int) (r : Rg) : Prop := ∀ b ∈ r, -c < b.1 ∧ b.2.1 < c ∧ SpBig c b.2.2
theorem SpBig.snoc {c : Int} {s : Sps} {p : Int × Int} (h : SpBig c s) (h1 : -c < p.1) (h2 : p.2 < c) : SpBig c (s ++ [p]) := fun q hq => by
  rcases List.mem_append.mp hq with e | e
  · exact h q e
  · simp at e; subst e; exact ⟨h1, h2⟩
theorem RgBig.snoc {c : Int} {s : Rg} {p : Int × Int × Sps} (h : RgBig c s) (h1 : -c < p.1) (h2 : p.2.1 < c) (h3 : SpBig c p.2.2) : RgBig c (s ++ [p]) := fun q hq => by
  rcases List.mem_append.mp hq with e | e
  · exact h q e
  · simp at e; subst e; exact ⟨h1, h2, h3⟩
theorem SpBig.mono {c d : Int} {s : Sps} (h : SpBig c s) (k : c ≤ d) : SpBig d s := fun p hp => by have := h p hp; omega
theorem RgBig.mono {c d : Int} {s : Rg} (h : RgBig c s) (k : c ≤ d) : RgBig d s := fun p hp => by
  obtain ⟨h1, h2, h3⟩ := h p hp
  exact ⟨by omega, by omega, h3.mono k⟩
theorem SpOk.one {p : Int × Int} (h : p.1 < p.2) : SpOk [p] := ⟨by simp, by simp, fun q hq => by simp at hq; rw [hq]; exact h, Chn.one⟩
def N_law_place : List Str := ["tap", "way", "far"]
def ir_law_place : ISs := .cons (.set 1 (.call 5 (.cons (.var 0) (.cons (.cst (.int 5)) .nil)))) (.cons (.set 2 (.bin .add (.bin .mul (.call 5 (.cons (.var 0) (.cons (.cst (.int 1000000000000000000000000000000)) .nil))) (.cst (.int 100000000000000000000000000000))) (.call 5 (.cons (.var 0) (.cons (.cst (.int 100000000000000000000000000000)) .nil))))) (.cons (.ret (.idl (.t (.dsp (.cons (.cst (.int 0)) (.cons (.bin .sub (.call 5 (.cons (.var 0) (.cons (.cst (.int 41)) .nil))) (.cst (.int 20))) (.cons (.bin .add (.cst (.int 10000000000000000000000000000000000000000000000000000000000)) (.var 2)) (.cons (.bin .sub (.cst (.int 0)) (.var 2)) (.cons (.cst (.int 999999993)) .nil))))))) (.var 1))) .nil))
def sp_law_place : MSp := fun ws S Q _ => ∃ (p : Addr) (o : MO) (n : Nat), ws = [.ref p] ∧ S p = some o ∧ Tap n o ∧ n ≤ 9000000 ∧
  ∀ (r : Int) (o' : MO), -(10 ^ 60) < r → r < 10 ^ 60 → Tap (n + 4) o' → Q (.int r) (put S p o')
theorem sp_law_place.use {p : Addr} {o : MO} {n : Nat} {S : Sto} {Q : WQ} {X : XQ} (hS : S p = some o) (ht : Tap n o) (hn : n ≤ 9000000)
    (h : ∀ (r : Int) (o' : MO), -(10 ^ 60) < r → r < 10 ^ 60 → Tap (n + 4) o' → Q (.int r) (put S p o')) : sp_law_place [.ref p] S Q X := ⟨p, o, n, rfl, hS, ht, hn, h⟩
theorem pf_law_place (G : Gs) (hG5 : G 5 = sp_law_next) (ws : List W) (S : Sto) (Q : WQ) (X : XQ) (h : sp_law_place ws S Q X) : ws.length = 1 ∧ wpF G 3 ir_law_place ws S Q X := by
  obtain ⟨p, o, n, rfl, hS, ht, hn, hq⟩ := h
  refine ⟨rfl, ?_⟩
  unfold wpF ir_law_place
  walk_at "wp"
  simp only [hG5]
  refine sp_law_next.use hS ht (by omega) (by decide) (by decide) fun r1 o1 h1 h1' t1 => ?_
  walk_at "wp"
  refine sp_law_next.use put_same t1 (by omega) (by decide) (by decide) fun r2 o2 h2 h2' t2 => ?_
  walk_at "wp"
  refine ⟨?_, sp_law_next.use put_same t2 (by omega) (by decide) (by decide) fun r3 o3 h3 h3' t3 => ?_⟩
  · unfold mulOk
    have e1 : r2.natAbs.log2 < 200 := log2_lt_of (by omega) (by decide)
    have e2 : (100000000000000000000000000000 : Int).natAbs.log2 < 200 := by decide +kernel
    omega
  walk_at "wp"
  refine sp_law_next.use put_same t3 (by omega) (by decide) (by decide) fun r4 o4 h4 h4' t4 => ?_
  walk_at "wp"
  refine ⟨by rw [sizeLine_val]; decide, ?_⟩
  obtain ⟨w, e, hm⟩ := atI_in (xs := [W.int 0, .int (r4 - 20), .int (10000000000000000000000000000000000000000000000000000000000 + (r2 * 100000000000000000000000000000 + r3)), .int (0 - (r2 * 100000000000000000000000000000 + r3)), .int 999999993]) h1 (by simpa using h1')
  rw [e]
  have fin : ∀ z : Int, w = .int z → -(10 ^ 60) < z → z < 10 ^ 60 → ∃ S2, Sub S2 (put S p o4) ∧ Q w S2 := fun z e1 e2 e3 => e1 ▸ ⟨_, Sub.refl _, hq z o4 e2 e3 t4⟩
  simp only [List.mem_cons, List.not_mem_nil, or_false] at hm
  rcases hm with e | e | e | e | e
  all_goals exact fin _ e (by omega) (by omega)
def N_law_spans : List Str := ["tap", "x", "found", "k", "wide"]
def ir_law_spans : ISs := .cons (.set 2 (.mat (.dsp (.nil)))) (.cons (.set 1 (.bin .add (.var 1) (.call 5 (.cons (.var 0) (.cons (.cst (.int 4)) .nil))))) (.cons (.for (.nm 3) (.rng (.bin .add (.cst (.int 1)) (.call 5 (.cons (.var 0) (.cons (.idl (.t (.dsp (.cons (.cst (.int 3)) (.cons (.cst (.int 3)) (.cons (.cst (.int 3)) (.cons (.cst (.int 6)) .nil)))))) (.call 5 (.cons (.var 0) (.cons (.cst (.int 4)) .nil)))) .nil))))) (.cons (.set 4 (.bin .add (.cst (.int 1)) (.call 5 (.cons (.var 0) (.cons (.idl (.t (.dsp (.cons (.cst (.int 2)) (.cons (.cst (.int 3)) (.cons (.cst (.int 6)) (.cons (.cst (.int 2)) (.cons (.cst (.int 3)) (.cons (.cst (.int 6)) (.cons (.cst (.int 4)) (.cons (.cst (.int 100000000000000000000)) .nil)))))))))) (.call 5 (.cons (.var 0) (.cons (.cst (.int 8)) .nil)))) .nil))))) (.cons (.exp (.app (.var 2) (.tup (.cons (.var 1) (.cons (.bin .add (.var 1) (.var 4)) .nil))))) (.cons (.set 1 (.bin .add (.bin .add (.bin .add (.var 1) (.var 4)) (.cst (.int 1))) (.call 5 (.cons (.var 0) (.cons (.cst (.int 3)) .nil))))) .nil)))) (.cons (.ret (.tupl (.of (.var 2)))) .nil)))
def sp_law_spans : MSp := fun ws S Q _ => ∃ (p : Addr) (x : Int) (o : MO) (n : Nat), ws = [.ref p, .int x] ∧ -(10 ^ 62) < x ∧ x < 10 ^ 62 ∧ S p = some o ∧ Tap n o ∧ n ≤ 8000000 ∧
  ∀ (s : Sps) (o' : MO), SpOk s → SpBig (10 ^ 63) s → Tap (n + 40) o' → Q (spsW s) (put S p o')
theorem sp_law_spans.use {p : Addr} {x : Int} {o : MO} {n : Nat} {S : Sto} {Q : WQ} {X : XQ} (hx0 : -(10 ^ 62) < x) (hx1 : x < 10 ^ 62) (hS : S p = some o) (ht : Tap n o) (hn : n ≤ 8000000)
    (h : ∀ (s : Sps) (o' : MO), SpOk s → SpBig (10 ^ 63) s → Tap (n + 40) o' → Q (spsW s) (put S p o')) : sp_law_spans [.ref p, .int x] S Q X := ⟨p, x, o, n, rfl, hx0, hx1, hS, ht, hn, h⟩
theorem atI_ints {l : List Int} {i : Int} (P : Int → Prop) (h : ∀ k ∈ l, P k) (h0 : 0 ≤ i) (h1 : i < l.length) : ∃ k, atI (l.map W.int) i = some (.int k) ∧ P k := by
  obtain ⟨w, e, hm⟩ := atI_in (xs := l.map W.int) h0 (by simpa using h1)
  obtain ⟨k, hk, rfl⟩ := List.mem_map.mp hm
  exact ⟨k, e, h k hk⟩
theorem pf_law_spans (G : Gs) (hG5 : G 5 = sp_law_next) (ws : List W) (S : Sto) (Q : WQ) (X : XQ) (h : sp_law_spans ws S Q X) : ws.length = 2 ∧ wpF G 5 ir_law_spans ws S Q X := by
  obtain ⟨p, x, o, n, rfl, hx0, hx1, hS, ht, hn, hq⟩ := h
  refine ⟨rfl, ?_⟩
  unfold wpF ir_law_spans
  walk_at "wp"
  simp only [hG5]
  refine ⟨by rw [sizeLine_val]; decide, fun q hp => ?_⟩
  have hqp : q ≠ p := ne_new hS hp
  refine sp_law_next.use (by rw [put_ne (Ne.symm hqp)]; exact hS) ht (by omega) (by decide) (by decide) fun r1 o1 h1 h1' t1 => ?_
  rw [put_comm hqp]
  walk_at "wp"
  refine ⟨by rw [sizeLine_val]; decide, sp_law_next.use (put_at (Ne.symm hqp)) t1 (by omega) (by decide) (by decide) fun r2 o2 h2 h2' t2 => ?_⟩
  rw [put_mid hqp]
  obtain ⟨k, ek, hk⟩ := atI_ints (l := [3, 3, 3, 6]) (i := r2) (fun k => 0 < k ∧ k ≤ 6) (by decide) h2 (by simpa using h2')
  simp only [List.map_cons, List.map_nil] at ek
  simp only [ek]
  walk_at "wp"
  refine sp_law_next.use (put_at (Ne.symm hqp)) t2 (by omega) hk.1 (by omega) fun r3 o3 h3 h3' t3 => ?_
  rw [put_mid hqp]
  walk_at "wp"
  refine ⟨⟨by omega, by omega⟩, ?_⟩
  refine ForG.map (List.range (1 + r3).toNat) (fun (k : Nat) => .int (0 + k)) rfl (fun d _ σ S' => ∃ (x : Int) (a b : Option W) (o : MO) (s : Sps),
    σ = [some (.ref p), some (.int x), some (.ref q), a, b] ∧ S' = put (put S p o) q (.lst (s.map stW)) ∧ Tap (n + 10 + 3 * d.length) o ∧ s.length = d.length ∧ (∀ p ∈ s, p.1 < p.2) ∧ Chn (fun p q => p.2 < q.1) s ∧ (∀ p, s.getLast? = some p → p.2 < x) ∧ -(10 ^ 62) < x ∧ x < 10 ^ 62 + 4 + (10 ^ 20 + 5) * (d.length : Int) ∧ SpBig (10 ^ 63) s)
    _ (Sub.refl _) ⟨_, _, _, o3, [], rfl, rfl, t3.mono (by simp <;> omega), rfl, by simp, Chn.nil, by simp, by omega, by simp only [List.length_nil]; omega, fun p hp => by cases hp⟩ ?_ ?_
  · rintro d a r σ S' hl ⟨x, v, w, o, s, rfl, rfl, ht, hs, hpos, hch, hlast, hxl, hxh, hbig⟩
    have hd : d.length < 6 := by
      have e := congrArg List.length hl
      simp at e
      omega
    walk_at "wp"
    simp only [hG5]
    refine ⟨by rw [sizeLine_val]; decide, sp_law_next.use (put_at (Ne.symm hqp)) ht (by omega) (by decide) (by decide) fun r4 o4 h4 h4' t4 => ?_⟩
    rw [put_mid hqp]
    obtain ⟨k, ek, hk⟩ := atI_ints (l := [2, 3, 6, 2, 3, 6, 4, 100000000000000000000]) (i := r4) (fun k => 0 < k ∧ k ≤ 100000000000000000000) (by decide) h4 (by simpa using h4')
    simp only [List.map_cons, List.map_nil] at ek
    simp only [ek]
    walk_at "wp"
    refine sp_law_next.use (put_at (Ne.symm hqp)) t4 (by omega) hk.1 (by omega) fun r5 o5 h5 h5' t5 => ?_
    rw [put_mid hqp]
    walk_at "wp"
    refine ⟨by rw [sizeLine_val]; decide, by rw [List.length_map, sizeLine_val]; omega, sp_law_next.use (put_at (Ne.symm hqp)) t5 (by omega) (by decide) (by decide) fun r6 o6 h6 h6' t6 => ?_⟩
    rw [put_mid hqp]
    walk_at "wp"
    refine ⟨_, _, _, o6, s ++ [(x, x + (1 + r5))], rfl, ?_, t6.mono (by simp <;> omega), by simp [hs], ?_, ?_, ?_, by omega, by rw [List.length_append, List.length_singleton]; push_cast; omega, hbig.snoc (by show _ < x; omega) (by show x + (1 + r5) < _; omega)⟩
    · rw [List.map_append]; rfl
    · intro p hp
      rcases List.mem_append.mp hp with h | h
      · exact hpos p h
      · simp at h; subst h; show x < x + (1 + r5); omega
    · exact hch.snoc fun a ha => hlast a ha
    · intro p hp
      simp at hp
      subst hp
      show x + (1 + r5) < _
      omega
  · rintro σ S' ⟨x, v, w, o, s, rfl, rfl, ht, hs, hpos, hch, hlast, hxl, hxh, hbig⟩
    have hr : (List.range (1 + r3).toNat).length = (1 + r3).toNat := List.length_range
    rw [hr] at ht hs
    walk_at "wp"
    refine ⟨put S p o, Sub.put (by rw [put_ne hqp]; exact hp), hq s o ⟨?_, by omega, hpos, hch⟩ hbig (ht.mono (by omega))⟩
    intro z; subst z; simp at hs; omega
theorem enc_st : EncOk 1 stW := EncOk.t2 EncOk.int EncOk.int
theorem enc_sps : EncOk 2 spsW := enc_st.list
theorem enc_bd : EncOk 3 bdW := EncOk.t3 EncOk.int EncOk.int enc_sps
theorem cmp_sps {s t : Sps} {Q : Bool → Prop} : cmpW .eq (spsW s) (spsW t) Q = Q (decide (s = t)) := enc_sps.cmpEq (by decide)
def N_law_region : List Str := ["tap", "x", "y", "most", "bands", "k", "gap", "tall", "way", "spans"]
def ir_law_region : ISs := .cons (.set 4 (.mat (.dsp (.nil)))) (.cons (.for (.nm 5) (.rng (.call 5 (.cons (.var 0) (.cons (.bin .add (.var 3) (.cst (.int 1))) .nil)))) (.cons (.set 6 (.idl (.t (.dsp (.cons (.cst (.int 0)) (.cons (.cst (.int 0)) (.cons (.cst (.int 1)) (.cons (.cst (.int 3)) .nil)))))) (.call 5 (.cons (.var 0) (.cons (.cst (.int 4)) .nil))))) (.cons (.set 7 (.bin .add (.cst (.int 1)) (.call 5 (.cons (.var 0) (.cons (.idl (.t (.dsp (.cons (.cst (.int 3)) (.cons (.cst (.int 4)) (.cons (.cst (.int 3)) (.cons (.cst (.int 100000000000000000000)) .nil)))))) (.call 5 (.cons (.var 0) (.cons (.cst (.int 4)) .nil)))) .nil))))) (.cons (.set 8 (.call 5 (.cons (.var 0) (.cons (.cst (.int 5)) .nil)))) (.cons (.set 9 (.call 7 (.cons (.var 0) (.cons (.var 1) .nil)))) (.cons (.iff (.and (.eql false (.of (.var 4)) (.t (.dsp (.nil)))) (.cmp .lt (.var 8) (.cst (.int 3)))) (.cons (.set 9 (.idl (.t (.dsp (.cons (.idx (.idx (.var 4) (.cst (.int (-1)))) (.cst (.int 2))) (.cons (.slc (.idx (.idx (.var 4) (.cst (.int (-1)))) (.cst (.int 2))) (.none) (.some (.cst (.int 1)))) (.cons (.slc (.idx (.idx (.var 4) (.cst (.int (-1)))) (.cst (.int 2))) (.some (.cst (.int (-1)))) (.none)) .nil))))) (.var 8))) .nil) (.nil)) (.cons (.iff (.and (.eql false (.of (.var 4)) (.t (.dsp (.nil)))) (.and (.cmp .eq (.var 6) (.cst (.int 0))) (.cmp .eq (.var 9) (.idx (.idx (.var 4) (.cst (.int (-1)))) (.cst (.int 2)))))) (.cons (.set 6 (.cst (.int 1))) .nil) (.nil)) (.cons (.set 2 (.bin .add (.var 2) (.var 6))) (.cons (.exp (.app (.var 4) (.tup (.cons (.var 2) (.cons (.bin .add (.var 2) (.var 7)) (.cons (.var 9) .nil)))))) (.cons (.set 2 (.bin .add (.var 2) (.var 7))) .nil)))))))))) (.cons (.ret (.tupl (.of (.var 4)))) .nil))
def sp_law_region : MSp := fun ws S Q _ => ∃ (p : Addr) (x y m : Int) (o : MO) (n : Nat), ws = [.ref p, .int x, .int y, .int m] ∧ 0 ≤ m ∧ m ≤ 30 ∧ -(10 ^ 62) < x ∧ x < 10 ^ 62 ∧ -(10 ^ 62) < y ∧ y < 10 ^ 62 ∧ S p = some o ∧ Tap n o ∧ n ≤ 7000000 ∧
  ∀ (r : Rg) (o' : MO), RgOk r → RgBig (10 ^ 63) r → r.length ≤ m.toNat → Tap (n + 2000) o' → Q (rgW r) (put S p o')
theorem sp_law_region.use {p : Addr} {x y m : Int} {o : MO} {n : Nat} {S : Sto} {Q : WQ} {X : XQ} (h0 : 0 ≤ m) (h1 : m ≤ 30) (hx0 : -(10 ^ 62) < x) (hx1 : x < 10 ^ 62) (hy0 : -(10 ^ 62) < y) (hy1 : y < 10 ^ 62) (hS : S p = some o) (ht : Tap n o) (hn : n ≤ 7000000)
    (h : ∀ (r : Rg) (o' : MO), RgOk r → RgBig (10 ^ 63) r → r.length ≤ m.toNat → Tap (n + 2000) o' → Q (rgW r) (put S p o')) : sp_law_region [.ref p, .int x, .int y, .int m] S Q X := ⟨p, x, y, m, o, n, rfl, h0, h1, hx0, hx1, hy0, hy1, hS, ht, hn, h⟩
def RgnI (S : Sto) (p q : Addr) (x m : Int) (n : Nat) (d : List Nat) (σ : Envr) (S' : Sto) : Prop := ∃ (y : Int) (a b c e f : Option W) (o : MO) (r : Rg),
    σ = [some (.ref p), some (.int x), some (.int y), some (.int m), some (.ref q), a, b, c, e, f] ∧ S' = put (put S p o) q (.lst (r.map bdW)) ∧ Tap (n + 1 + 50 * d.length) o ∧ r.length = d.length ∧
      (∀ b ∈ r, b.1 < b.2.1 ∧ SpOk b.2.2) ∧ Chn (fun b c => b.2.1 < c.1 ∨ b.2.1 = c.1 ∧ b.2.2 ≠ c.2.2) r ∧ (∀ b, r.getLast? = some b → b.2.1 = y) ∧ -(10 ^ 62) < y ∧ y < 10 ^ 62 + (10 ^ 20 + 5) * (d.length : Int) ∧ RgBig (10 ^ 63) r
theorem pf_law_region (G : Gs) (hG5 : G 5 = sp_law_next) (hG7 : G 7 = sp_law_spans) (ws : List W) (S : Sto) (Q : WQ) (X : XQ) (h : sp_law_region ws S Q X) : ws.length = 4 ∧ wpF G 10 ir_law_region ws S Q X := by
  obtain ⟨p, x, y, m, o, n, rfl, hm0, hm1, hx0, hx1, hy0, hy1, hS, ht, hn, hq⟩ := h
  refine ⟨rfl, ?_⟩
  unfold wpF ir_law_region
  walk_at "wp"
  simp only [hG5]
  refine ⟨by rw [sizeLine_val]; decide, fun q hp => ?_⟩
  have hqp : q ≠ p := ne_new hS hp
  refine sp_law_next.use (by rw [put_ne (Ne.symm hqp)]; exact hS) ht (by omega) (by omega) (by omega) fun r1 o1 h1 h1' t1 => ?_
  rw [put_comm hqp]
  walk_at "wp"
  refine ⟨⟨by omega, by omega⟩, ?_⟩
  refine ForG.map (List.range r1.toNat) (fun (k : Nat) => .int (0 + k)) rfl (fun d _ => RgnI S p q x m n d)
    _ (Sub.refl _) ⟨_, _, _, _, _, _, o1, [], rfl, rfl, t1, rfl, by simp, Chn.nil, by simp, hy0, by simp only [List.length_nil]; omega, fun p hp => by cases hp⟩ ?_ ?_
  · rintro d a rr σ S' hl ⟨y, u1, u2, u3, u4, u5, o, r, rfl, rfl, ht, hs, hbd, hch, hlast, hyl, hyh, hbig⟩
    have hd : d.length < 30 := by
      have e := congrArg List.length hl
      simp at e
      omega
    walk_at "wp"
    simp only [hG5, hG7]
    refine ⟨by rw [sizeLine_val]; decide, sp_law_next.use (put_at (Ne.symm hqp)) ht (by omega) (by decide) (by decide) fun r2 o2 h2 h2' t2 => ?_⟩
    rw [put_mid hqp]
    obtain ⟨gap, ek, hgap⟩ := atI_ints (l := [0, 0, 1, 3]) (i := r2) (fun k => 0 ≤ k ∧ k ≤ 3) (by decide) h2 (by simpa using h2')
    simp only [List.map_cons, List.map_nil] at ek
    simp only [ek]
    walk_at "wp"
    refine ⟨by rw [sizeLine_val]; decide, sp_law_next.use (put_at (Ne.symm hqp)) t2 (by omega) (by decide) (by decide) fun r3 o3 h3 h3' t3 => ?_⟩
    rw [put_mid hqp]
    obtain ⟨k, ek, hk⟩ := atI_ints (l := [3, 4, 3, 100000000000000000000]) (i := r3) (fun k => 0 < k ∧ k ≤ 100000000000000000000) (by decide) h3 (by simpa using h3')
    simp only [List.map_cons, List.map_nil] at ek
    simp only [ek]
    walk_at "wp"
    refine sp_law_next.use (put_at (Ne.symm hqp)) t3 (by omega) hk.1 (by omega) fun r4 o4 h4 h4' t4 => ?_
    rw [put_mid hqp]
    walk_at "wp"
    refine sp_law_next.use (put_at (Ne.symm hqp)) t4 (by omega) (by decide) (by decide) fun way o5 h5 h5' t5 => ?_
    rw [put_mid hqp]
    walk_at "wp"
    refine sp_law_spans.use hx0 hx1 (put_at (Ne.symm hqp)) t5 (by omega) fun s o6 hsp hsb t6 => ?_
    rw [put_mid hqp]
    walk_at "wp"
    obtain ⟨tall, htall⟩ : ∃ tall, 1 + r4 = tall := ⟨_, rfl⟩
    rw [htall]
    have e1 : W.eqvs (r.map bdW) [] = decide (r = []) := enc_bd.eqvs r []
    have fin : ∀ (s' : Sps) (g : Int), SpOk s' → SpBig (10 ^ 63) s' → 0 ≤ g ∧ g ≤ 3 → (∀ b, r.getLast? = some b → g = 0 → s' ≠ b.2.2) → 3 ≤ sizeLine ∧ (List.map bdW r).length < sizeLine ∧ RgnI S p q x m n (d ++ [a])
        [some (.ref p), some (.int x), some (.int (y + g + tall)), some (.int m), some (.ref q), some (.int (0 + a)), some (.int g), some (.int tall), some (.int way), some (spsW s')]
        (put (put S p o6) q (.lst (List.map bdW r ++ [.tup [.int (y + g), .int (y + g + tall), spsW s']]))) := fun s' g hs' hsb' hg hb => by
      refine ⟨by rw [sizeLine_val]; decide, by rw [sizeLine_val, List.length_map]; omega, _, _, _, _, _, _, o6, r ++ [(y + g, y + g + tall, s')], rfl, by rw [List.map_append]; rfl, t6.mono (by simp <;> omega), by simp [hs], ?_, ?_, ?_, by omega, by rw [List.length_append, List.length_singleton]; push_cast; omega, hbig.snoc (by show _ < y + g; omega) (by show y + g + tall < _; omega) hsb'⟩
      · intro b hb
        rcases List.mem_append.mp hb with h | h
        · exact hbd b h
        · simp at h; subst h; exact ⟨by show y + g < y + g + tall; omega, hs'⟩
      · refine hch.snoc fun b hb' => ?_
        have h := hlast b hb'
        show b.2.1 < y + g ∨ b.2.1 = y + g ∧ b.2.2 ≠ s'
        by_cases hg0 : g = 0
        · exact .inr ⟨by omega, fun z => hb b hb' hg0 z.symm⟩
        · exact .inl (by omega)
      · intro b hb
        simp at hb
        subst hb
        rfl
    rw [e1]
    rcases List.eq_nil_or_concat r with rfl | ⟨r0, b, er⟩
    · refine ⟨by decide, (fun z => by cases z), (fun z => by cases z), enc_bd.eqsOk (by decide) [], enc_bd.eqsOk (by decide) [], ?_⟩
      rw [if_neg (by simp)]
      refine ⟨by decide, (fun z => by cases z), (fun z => by cases z), enc_bd.eqsOk (by decide) [], enc_bd.eqsOk (by decide) [], ?_⟩
      rw [if_neg (by simp)]
      exact fin s gap hsp hsb hgap (fun b hb => by simp at hb)
    · have er : r = r0 ++ [b] := by rw [er, List.concat_eq_append]
      have hne : r ≠ [] := by rw [er]; simp
      have hbs : SpOk b.2.2 := (hbd b (by rw [er]; simp)).2
      have hbb : SpBig (10 ^ 63) b.2.2 := (hbig b (by rw [er]; simp)).2.2
      have e2 : atI (List.map bdW r) (-1) = some (bdW b) := by rw [er, List.map_append]; exact atI_m1
      have e3 : idxW (bdW b) (.int 2) (put (put S p o6) q (.lst (List.map bdW r))) = some (spsW b.2.2) := rfl
      have hl : ∀ c, r.getLast? = some c → c = b := fun c hc => by rw [er] at hc; simp at hc; exact hc.symm
      have two : ∀ s', SpOk s' → SpBig (10 ^ 63) s' → 0 ≤ sizeLine ∧ LK.ls ≠ LK.tu ∧ LK.ls ≠ LK.tu ∧ W.eqsOk (List.map bdW r) ∧ W.eqsOk [] ∧ if (decide (r = []) == false) = true then
          if gap = 0 then cmpW .eq (spsW s') (spsW b.2.2) (fun k => if k = true then 3 ≤ sizeLine ∧ (List.map bdW r).length < sizeLine ∧ RgnI S p q x m n (d ++ [a])
              [some (.ref p), some (.int x), some (.int (y + 1 + tall)), some (.int m), some (.ref q), some (.int (0 + a)), some (.int 1), some (.int tall), some (.int way), some (spsW s')]
              (put (put S p o6) q (.lst (List.map bdW r ++ [.tup [.int (y + 1), .int (y + 1 + tall), spsW s']])))
            else 3 ≤ sizeLine ∧ (List.map bdW r).length < sizeLine ∧ RgnI S p q x m n (d ++ [a])
              [some (.ref p), some (.int x), some (.int (y + gap + tall)), some (.int m), some (.ref q), some (.int (0 + a)), some (.int gap), some (.int tall), some (.int way), some (spsW s')]
              (put (put S p o6) q (.lst (List.map bdW r ++ [.tup [.int (y + gap), .int (y + gap + tall), spsW s']]))))
          else 3 ≤ sizeLine ∧ (List.map bdW r).length < sizeLine ∧ RgnI S p q x m n (d ++ [a])
              [some (.ref p), some (.int x), some (.int (y + gap + tall)), some (.int m), some (.ref q), some (.int (0 + a)), some (.int gap), some (.int tall), some (.int way), some (spsW s')]
              (put (put S p o6) q (.lst (List.map bdW r ++ [.tup [.int (y + gap), .int (y + gap + tall), spsW s']])))
        else 3 ≤ sizeLine ∧ (List.map bdW r).length < sizeLine ∧ RgnI S p q x m n (d ++ [a])
              [some (.ref p), some (.int x), some (.int (y + gap + tall)), some (.int m), some (.ref q), some (.int (0 + a)), some (.int gap), some (.int tall), some (.int way), some (spsW s')]
              (put (put S p o6) q (.lst (List.map bdW r ++ [.tup [.int (y + gap), .int (y + gap + tall), spsW s']]))) := fun s' hs' hsb' => by
        refine ⟨by rw [sizeLine_val]; decide, (fun z => by cases z), (fun z => by cases z), enc_bd.eqsOk (by decide) r, enc_bd.eqsOk (by decide) [], ?_⟩
        rw [if_pos (by simp [hne])]
        by_cases hg0 : gap = 0
        · rw [if_pos hg0, cmp_sps]
          by_cases hs2 : s' = b.2.2
          · rw [if_pos (by simp [hs2])]
            exact fin s' 1 hs' hsb' (by decide) (fun c _ h => by cases h)
          · rw [if_neg (by simp [hs2])]
            exact fin s' gap hs' hsb' hgap (fun c hc _ => by rw [hl c hc]; exact hs2)
        · rw [if_neg hg0]
          exact fin s' gap hs' hsb' hgap (fun c _ h => (hg0 h).elim)
      refine ⟨by rw [sizeLine_val]; decide, (fun z => by cases z), (fun z => by cases z), enc_bd.eqsOk (by decide) r, enc_bd.eqsOk (by decide) [], ?_⟩
      simp only [e2, e3]
      rw [if_pos (by simp [hne])]
      by_cases hw : way < 3
      · rw [if_pos hw]
        unfold spsW at two ⊢
        dsimp only
        refine ⟨by rw [sizeLine_val]; decide, ?_⟩
        have hcase : way = 0 ∨ way = 1 ∨ way = 2 := by omega
        rcases hcase with rfl | rfl | rfl
        · simp only [atI_0]
          exact two b.2.2 hbs hbb
        · obtain ⟨z, zs, ez⟩ := List.exists_cons_of_ne_nil hbs.ne
          have h := two [z] (SpOk.one (hbs.pos z (by rw [ez]; simp))) (fun q hq => by rw [List.mem_singleton.mp hq]; exact hbb z (by rw [ez]; simp))
          simp only [atI_1, ez, List.map_cons, cutW_hd] at h ⊢
          exact h
        · rcases List.eq_nil_or_concat b.2.2 with ez | ⟨zs, z, ez⟩
          · exact (hbs.ne ez).elim
          · rw [List.concat_eq_append] at ez
            have h := two [z] (SpOk.one (hbs.pos z (by rw [ez]; simp))) (fun q hq => by rw [List.mem_singleton.mp hq]; exact hbb z (by rw [ez]; simp))
            simp only [atI_2, ez, List.map_append, List.map_cons, List.map_nil, cutW_lst] at h ⊢
            exact h
      · rw [if_neg hw]
        exact two s hsp hsb
  · rintro σ S' ⟨y, u1, u2, u3, u4, u5, o, r, rfl, rfl, ht, hs, hbd, hch, hlast, hyl, hyh, hbig⟩
    rw [List.length_range] at ht hs
    walk_at "wp"
    refine ⟨put S p o, Sub.put (by rw [put_ne hqp]; exact hp), hq r o ⟨by omega, hbd, hch⟩ hbig (by omega) (ht.mono (by omega))⟩
theorem Chn.range {α : Type} {R : α → α → Prop} {f : Nat → α} {n : Nat} (h : ∀ i, R (f i) (f (i + 1))) : Chn R ((List.range n).map f) := fun i a b h1 h2 => by
  rw [List.getElem?_map] at h1 h2
  have e2 : i + 1 < n := by
    by_cases z : i + 1 < n
    · exact z
    · rw [List.getElem?_eq_none (by simp; omega)] at h2; cases h2
  rw [List.getElem?_range (by omega)] at h1
  rw [List.getElem?_range e2] at h2
  cases h1; cases h2
  exact h i
def sp_law_any : MSp := fun ws S Q _ => ∃ (p : Addr) (x y : Int) (o : MO) (n : Nat), ws = [.ref p, .int x, .int y] ∧ -(10 ^ 61) < x ∧ x < 10 ^ 61 ∧ -(10 ^ 61) < y ∧ y < 10 ^ 61 ∧ S p = some o ∧ Tap n o ∧ n ≤ 6000000 ∧
  ∀ (r : Rg) (o' : MO), RgOk r → RgBig (10 ^ 63) r → Tap (n + 2100) o' → Q (rgW r) (put S p o')
theorem sp_law_any.use {p : Addr} {x y : Int} {o : MO} {n : Nat} {S : Sto} {Q : WQ} {X : XQ} (hx0 : -(10 ^ 61) < x) (hx1 : x < 10 ^ 61) (hy0 : -(10 ^ 61) < y) (hy1 : y < 10 ^ 61) (hS : S p = some o) (ht : Tap n o) (hn : n ≤ 6000000)
    (h : ∀ (r : Rg) (o' : MO), RgOk r → RgBig (10 ^ 63) r → Tap (n + 2100) o' → Q (rgW r) (put S p o')) : sp_law_any [.ref p, .int x, .int y] S Q X := ⟨p, x, y, o, n, rfl, hx0, hx1, hy0, hy1, hS, ht, hn, h⟩
theorem step_mul (step : Int) (h : step = 2 ∨ step = 3) (i : Nat) : step * (0 + ((i + 1 : Nat) : Int)) = step * (0 + (i : Int)) + step := by rcases h with rfl | rfl <;> omega
theorem step_le (step : Int) (h : step = 2 ∨ step = 3) (i : Nat) : 0 ≤ step * (0 + (i : Int)) ∧ step * (0 + (i : Int)) ≤ 3 * (i : Int) := by rcases h with rfl | rfl <;> omega
def sp_right : MSp := fun ws S Q _ => ∃ (p : Addr) (o : MO), ws = [.ref p] ∧ S p = some o ∧ Tap 0 o ∧ ∀ o', Q (.bl true) (put S p o')
def sp_law : MSp := fun ws S Q _ => ∃ ns : List Int, ws = [.rol (ns.map W.int)] ∧ ns.length ≤ 63 ∧ (∀ z ∈ ns, z.natAbs.log2 < 2000000) ∧ Q (.bl true) S
theorem cutW_map {α β : Type} {f : α → β} {l : List α} {a b : Option Int} : cutW (l.map f) a b = (cutW l a b).map f := by
  unfold cutW; rw [List.length_map, List.map_take, List.map_drop]
theorem cutW_mem {α : Type} {l : List α} {a b : Option Int} {x : α} (h : x ∈ cutW l a b) : x ∈ l := List.mem_of_mem_drop (List.mem_of_mem_take h)
theorem bits_log2 {z : Int} (h : Builtin.Int.intBits z ≤ 1048576) : z.natAbs.log2 < 2000000 := by
  by_cases hz : z = 0
  · subst hz; decide
  · unfold Builtin.Int.intBits at h
    rw [if_neg (by simpa using hz)] at h
    omega
theorem lawSp_law : lawSp sp_law := fun ns hl hb => ⟨ns, rfl, hl, fun z hz => bits_log2 (hb z hz), rfl⟩
abbrev lawIt (c : Int) : II := .lst (.t (.slc (.t (.cat (.of (.var 0)) (.t (.dsp (.cons (.cst (.int 0)) .nil))))) (.none) (.some (.mx (.cst (.int 1)) (.mn (.len (.var 0)) (.cst (.int c)))))))
abbrev lawBody (r : Nat) : ISs := .cons (.iff (.not (.call r (.cons (.call 4 (.cons (.var 1) .nil)) .nil))) (.cons (.ret (.cst (.bl false))) .nil) (.nil)) .nil
theorem law_for {G : Gs} {D : MEnds} {ns : List Int} {b0 : Option W} {S0 S : Sto} (c : Int) (r : Nat) (hG4 : G 4 = sp_law_tap) (hGr : G r = sp_right) (h0 : Sub S0 S) (hl : ns.length ≤ 63) (hb : ∀ z ∈ ns, z.natAbs.log2 < 2000000)
    (hq : ∀ b S', Sub S0 S' → D.nx [some (.rol (ns.map W.int)), b] S') : wpS G (.for (.nm 1) (lawIt c) (lawBody r)) D [some (.rol (ns.map W.int)), b0] S := by
  have e1 : ∀ a b : Option Int, cutW (ns.map W.int ++ [W.int 0]) a b = (cutW (ns ++ [0]) a b).map W.int := fun a b => by rw [← cutW_map, List.map_append]; rfl
  walk_at "wp"
  simp only [e1]
  refine ⟨by rw [sizeLine_val]; decide, (fun z => by cases z), (fun z => by cases z), by rw [sizeLine_val, List.length_map]; omega, (fun z => by cases z), ?_⟩
  refine ForG.map (cutW (ns ++ [0]) _ _) W.int rfl (fun d _ σ S' => Sub S0 S' ∧ ∃ b : Option W, σ = [some (.rol (ns.map W.int)), b]) S (Sub.refl _) ⟨h0, _, rfl⟩ ?_ ?_
  · rintro d k r σ S' he ⟨hS, b, rfl⟩
    have hc : k.natAbs.log2 < 2000000 := by
      have h1 : k ∈ cutW (ns ++ [0]) none (some (max 1 (min (ns.map W.int).length c))) := by rw [he]; simp
      have h2 := cutW_mem h1
      rw [List.mem_append] at h2
      rcases h2 with h | h
      · exact hb k h
      · simp at h; subst h; decide
    walk_at "wp"
    simp only [hG4, hGr]
    refine ⟨k, rfl, hc, fun p o hp ht => ?_⟩
    refine ⟨p, o, rfl, put_same, ht, fun o' => ?_⟩
    walk_at "wp"
    exact ⟨hS.trans (Sub.put hp), _, rfl⟩
  · rintro σ S' ⟨hS, b, rfl⟩
    exact ⟨trivial, hq b S' hS⟩
def N_law : List Str := ["script", "cell"]
def ir_law : ISs := .cons (.for (.nm 1) (.lst (.t (.slc (.t (.cat (.of (.var 0)) (.t (.dsp (.cons (.cst (.int 0)) .nil))))) (.none) (.some (.mx (.cst (.int 1)) (.mn (.len (.var 0)) (.cst (.int 24)))))))) (.cons (.iff (.not (.call 16 (.cons (.call 4 (.cons (.var 1) .nil)) .nil))) (.cons (.ret (.cst (.bl false))) .nil) (.nil)) .nil)) (.cons (.ret (.cst (.bl true))) .nil)
theorem pf_law (G : Gs) (hG4 : G 4 = sp_law_tap) (hG16 : G 16 = sp_right) (ws : List W) (S : Sto) (Q : WQ) (X : XQ) (h : sp_law ws S Q X) : ws.length = 1 ∧ wpF G 2 ir_law ws S Q X := by
  obtain ⟨ns, rfl, hl, hb, hq⟩ := h
  refine ⟨rfl, ?_⟩
  unfold wpF ir_law
  rw [wss_cons]
  refine law_for 24 16 hG4 hG16 (Sub.refl S) hl hb fun b S' hS => ?_
  walk_at "wp"
  exact ⟨_, hS, hq⟩
structure SpV (s : Sps) : Prop where
  ne : s ≠ []
  pos : ∀ p ∈ s, p.1 < p.2
  chn : Chn (fun p q => p.2 < q.1) s
structure RgV (r : Rg) : Prop where
  bd : ∀ b ∈ r, b.1 < b.2.1 ∧ SpV b.2.2
  chn : Chn (fun b c => b.2.1 < c.1 ∨ b.2.1 = c.1 ∧ b.2.2 ≠ c.2.2) r
theorem SpOk.v {s : Sps} (h : SpOk s) : SpV s := ⟨h.ne, h.pos, h.chn⟩
theorem RgOk.v {r : Rg} (h : RgOk r) : RgV r := ⟨fun b hb => ⟨(h.bd b hb).1, (h.bd b hb).2.v⟩, h.chn⟩
def N_law_whole : List Str := ["thing"]
def ir_law_whole : ISs := .cons (.ret (.and (.isa (.var 0) "int") (.not (.isa (.var 0) "bool")))) .nil
def sp_law_whole : MSp := fun ws S Q _ => ∃ i : Int, ws = [.int i] ∧ Q (.bl true) S
theorem sp_law_whole.use {i : Int} {S : Sto} {Q : WQ} {X : XQ} : sp_law_whole [.int i] S Q X = Q (.bl true) S :=
  propext ⟨fun ⟨_, _, h⟩ => h, fun h => ⟨i, rfl, h⟩⟩
def N_law_are_spans : List Str := ["thing", "ahead", "one"]
def ir_law_are_spans : ISs := .cons (.iff (.or (.not (.isa (.var 0) "tuple")) (.eqE (.var 0) (.tup (.nil)))) (.cons (.ret (.cst (.bl false))) .nil) (.nil)) (.cons (.set 1 (.cst .non)) (.cons (.for (.nm 2) (.lst (.of (.var 0))) (.cons (.iff (.or (.not (.isa (.var 2) "tuple")) (.or (.cmp .ne (.len (.var 2)) (.cst (.int 2))) (.or (.not (.call 10 (.cons (.idx (.var 2) (.cst (.int 0))) .nil))) (.not (.call 10 (.cons (.idx (.var 2) (.cst (.int 1))) .nil)))))) (.cons (.ret (.cst (.bl false))) .nil) (.nil)) (.cons (.iff (.or (.cmp .ge (.idx (.var 2) (.cst (.int 0))) (.idx (.var 2) (.cst (.int 1)))) (.and (.isN false (.var 1)) (.cmp .le (.idx (.var 2) (.cst (.int 0))) (.var 1)))) (.cons (.ret (.cst (.bl false))) .nil) (.nil)) (.cons (.set 1 (.idx (.var 2) (.cst (.int 1)))) .nil)))) (.cons (.ret (.cst (.bl true))) .nil)))
def N_law_is_region : List Str := ["thing", "ahead", "one"]
def ir_law_is_region : ISs := .cons (.iff (.not (.isa (.var 0) "tuple")) (.cons (.ret (.cst (.bl false))) .nil) (.nil)) (.cons (.set 1 (.cst .non)) (.cons (.for (.nm 2) (.lst (.of (.var 0))) (.cons (.iff (.or (.not (.isa (.var 2) "tuple")) (.or (.cmp .ne (.len (.var 2)) (.cst (.int 3))) (.or (.not (.call 10 (.cons (.idx (.var 2) (.cst (.int 0))) .nil))) (.not (.call 10 (.cons (.idx (.var 2) (.cst (.int 1))) .nil)))))) (.cons (.ret (.cst (.bl false))) .nil) (.nil)) (.cons (.iff (.or (.cmp .ge (.idx (.var 2) (.cst (.int 0))) (.idx (.var 2) (.cst (.int 1)))) (.not (.call 11 (.cons (.idx (.var 2) (.cst (.int 2))) .nil)))) (.cons (.ret (.cst (.bl false))) .nil) (.nil)) (.cons (.iff (.and (.isN false (.var 1)) (.or (.cmp .lt (.idx (.var 2) (.cst (.int 0))) (.idx (.var 1) (.cst (.int 1)))) (.and (.cmp .eq (.idx (.var 2) (.cst (.int 0))) (.idx (.var 1) (.cst (.int 1)))) (.cmp .eq (.idx (.var 2) (.cst (.int 2))) (.idx (.var 1) (.cst (.int 2))))))) (.cons (.ret (.cst (.bl false))) .nil) (.nil)) (.cons (.set 1 (.var 2)) .nil))))) (.cons (.ret (.cst (.bl true))) .nil)))
def sp_law_is_region : MSp := fun ws S Q _ => ∃ s : Rg, ws = [rgW s] ∧ RgV s ∧ Q (.bl true) S
theorem sp_law_is_region.use {s : Rg} {S : Sto} {Q : WQ} {X : XQ} (h : RgV s) (hq : Q (.bl true) S) : sp_law_is_region [rgW s] S Q X := ⟨s, rfl, h, hq⟩
theorem Chn.tail {α : Type} {R : α → α → Prop} {a : α} {l : List α} (h : Chn R (a :: l)) : Chn R l := fun i x y h1 h2 => h (i + 1) x y (by simpa using h1) (by simpa using h2)
theorem Chn.pw {α : Type} {R T : α → α → Prop} {P : α → Prop} (hT : ∀ a b, R a b → P b → T a b) (tr : ∀ a b c, T a b → T b c → T a c) : ∀ {l : List α}, Chn R l → (∀ x ∈ l, P x) → l.Pairwise T
  | [], _, _ => .nil
  | a :: l, h, hp => by
    have ih := Chn.pw hT tr h.tail fun x hx => hp x (List.mem_cons_of_mem _ hx)
    refine List.pairwise_cons.mpr ⟨fun c hc => ?_, ih⟩
    cases l with
    | nil => cases hc
    | cons b t =>
      have hab : T a b := hT a b (h 0 a b rfl rfl) (hp b (by simp))
      rcases List.mem_cons.mp hc with e | e
      · rw [e]; exact hab
      · exact tr a b c hab ((List.pairwise_cons.mp ih).1 c e)
theorem SpV.pw {s : Sps} (h : SpV s) : s.Pairwise (fun p q => p.2 < q.1 ∧ q.1 < q.2) := h.chn.pw (P := fun p => p.1 < p.2) (fun a b h1 h2 => ⟨h1, h2⟩) (fun a b c h1 h2 => ⟨by omega, h2.2⟩) h.pos
theorem RgV.pw {r : Rg} (h : RgV r) : r.Pairwise (fun p q => p.2.1 ≤ q.1 ∧ q.1 < q.2.1) := h.chn.pw (P := fun p => p.1 < p.2.1) (fun a b h1 h2 => ⟨by rcases h1 with h1 | h1 <;> omega, h2⟩) (fun a b c h1 h2 => ⟨by omega, h2.2⟩) fun b hb => (h.bd b hb).1
def inS (s : Sps) (x : Int) : Prop := ∃ p ∈ s, p.1 ≤ x ∧ x < p.2
def inR (r : Rg) (x y : Int) : Prop := ∃ b ∈ r, b.1 ≤ y ∧ y < b.2.1 ∧ inS b.2.2 x
def PwS (s : Sps) : Prop := (∀ p ∈ s, p.1 < p.2) ∧ s.Pairwise fun p q => p.2 < q.1
theorem PwS.tail {p : Int × Int} {s : Sps} (h : PwS (p :: s)) : PwS s := ⟨fun q hq => h.1 q (by simp [hq]), (List.pairwise_cons.mp h.2).2⟩
theorem PwS.off {p : Int × Int} {s : Sps} (h : PwS (p :: s)) {x : Int} (hx : inS s x) : p.2 < x := by
  obtain ⟨q, hq, h1, _⟩ := hx
  have := (List.pairwise_cons.mp h.2).1 q hq
  omega
theorem Chn.ofPw {α : Type} {R : α → α → Prop} {l : List α} (h : l.Pairwise R) : Chn R l := fun i a b h1 h2 => by
  obtain ⟨k1, rfl⟩ := List.getElem?_eq_some_iff.mp h1
  obtain ⟨k2, rfl⟩ := List.getElem?_eq_some_iff.mp h2
  exact List.pairwise_iff_getElem.mp h i (i + 1) k1 k2 (by omega)
theorem PwS.v {s : Sps} (h : PwS s) (hn : s ≠ []) : SpV s := ⟨hn, h.1, Chn.ofPw h.2⟩
theorem SpV.some {s : Sps} (h : SpV s) : ∃ x, inS s x := by
  obtain ⟨p, hp⟩ := List.exists_mem_of_ne_nil s h.ne
  exact ⟨p.1, p, hp, by omega, h.pos p hp⟩
theorem RgV.tail {b : Int × Int × Sps} {r : Rg} (h : RgV (b :: r)) : RgV r := ⟨fun c hc => h.bd c (by simp [hc]), h.chn.tail⟩
theorem RgV.off {b : Int × Int × Sps} {r : Rg} (h : RgV (b :: r)) {x y : Int} (hx : inR r x y) : b.2.1 ≤ y := by
  obtain ⟨c, hc, h1, _⟩ := hx
  have := (List.pairwise_cons.mp h.pw).1 c hc
  omega
def spanPut (s : Sps) (x0 x1 : Int) : Sps := match s.getLast? with
  | some p => if x0 ≤ p.2 then s.dropLast ++ [(p.1, max p.2 x1)] else s ++ [(x0, x1)]
  | none => s ++ [(x0, x1)]
theorem PwS.snoc {t : Sps} {p : Int × Int} : PwS (t ++ [p]) ↔ PwS t ∧ p.1 < p.2 ∧ ∀ q ∈ t, q.2 < p.1 := by
  unfold PwS
  rw [List.pairwise_append]
  constructor
  · rintro ⟨h1, h2, _, h3⟩
    exact ⟨⟨fun q hq => h1 q (by simp [hq]), h2⟩, h1 p (by simp), fun q hq => h3 q hq p (by simp)⟩
  · rintro ⟨⟨h1, h2⟩, h3, h4⟩
    refine ⟨fun q hq => ?_, h2, List.pairwise_singleton _ _, fun q hq r hr => ?_⟩
    · rcases List.mem_append.mp hq with e | e
      · exact h1 q e
      · simp at e; rw [e]; exact h3
    · simp at hr; rw [hr]; exact h4 q hq
theorem PwS.nil : PwS [] := ⟨fun p h => (by cases h), .nil⟩
def bandPut (r : Rg) (y0 y1 : Int) (s : Sps) : Rg := if s = [] then r else match r.getLast? with
  | some b => if b.2.1 = y0 ∧ b.2.2 = s then r.dropLast ++ [(b.1, y1, s)] else r ++ [(y0, y1, s)]
  | none => r ++ [(y0, y1, s)]
theorem RgV.nil : RgV [] := ⟨fun b h => (by cases h), Chn.nil⟩
theorem Chn.init {α : Type} {R : α → α → Prop} {l : List α} {x : α} (h : Chn R (l ++ [x])) : Chn R l := fun i a b h1 h2 => by
  have k1 := (List.getElem?_eq_some_iff.mp h1).1
  have k2 := (List.getElem?_eq_some_iff.mp h2).1
  exact h i a b (by rw [List.getElem?_append_left k1]; exact h1) (by rw [List.getElem?_append_left k2]; exact h2)
theorem RgV.init {t : Rg} {b : Int × Int × Sps} (h : RgV (t ++ [b])) : RgV t := ⟨fun c hc => h.bd c (by simp [hc]), h.chn.init⟩
theorem RgV.snoc {t : Rg} {b : Int × Int × Sps} (h : RgV t) (hb : b.1 < b.2.1) (hv : SpV b.2.2) (hl : ∀ c, t.getLast? = some c → c.2.1 < b.1 ∨ c.2.1 = b.1 ∧ c.2.2 ≠ b.2.2) : RgV (t ++ [b]) := ⟨fun c hc => by
  rcases List.mem_append.mp hc with e | e
  · exact h.bd c e
  · simp at e; rw [e]; exact ⟨hb, hv⟩, h.chn.snoc hl⟩
def sp_span_put : MSp := fun ws S Q _ => ∃ (p : Addr) (s : Sps) (x0 x1 : Int), ws = [.ref p, .int x0, .int x1] ∧ S p = some (.lst (s.map stW)) ∧ s.length < 16777216 ∧ Q .non (put S p (.lst ((spanPut s x0 x1).map stW)))
theorem sp_span_put.use {p : Addr} {s : Sps} {x0 x1 : Int} {S : Sto} {Q : WQ} {X : XQ} (hS : S p = some (.lst (s.map stW))) (hl : s.length < 16777216) (h : Q .non (put S p (.lst ((spanPut s x0 x1).map stW)))) :
    sp_span_put [.ref p, .int x0, .int x1] S Q X := ⟨p, s, x0, x1, rfl, hS, hl, h⟩
def sp_band_put : MSp := fun ws S Q _ => ∃ (p : Addr) (r : Rg) (y0 y1 : Int) (s : Sps), ws = [.ref p, .int y0, .int y1, spsW s] ∧ S p = some (.lst (r.map bdW)) ∧ r.length < 16777216 ∧ ∀ S', S' = put S p (.lst ((bandPut r y0 y1 s).map bdW)) → Q .non S'
theorem sp_band_put.use {p : Addr} {r : Rg} {y0 y1 : Int} {s : Sps} {S : Sto} {Q : WQ} {X : XQ} (hS : S p = some (.lst (r.map bdW))) (hl : r.length < 16777216) (h : Q .non (put S p (.lst ((bandPut r y0 y1 s).map bdW)))) :
    sp_band_put [.ref p, .int y0, .int y1, spsW s] S Q X := ⟨p, r, y0, y1, s, rfl, hS, hl, fun S' e => e ▸ h⟩
theorem Sub.new {S S' : Sto} {q : Addr} {o : MO} (h : Sub S S') (hq : S' q = none) : Sub S (M3.put S' q o) := h.trans (Sub.put hq)
theorem Sub.upd {S S' : Sto} {q : Addr} {o : MO} (h : Sub S S') (hq : S q = none) : Sub S (M3.put S' q o) := fun a u e => by
  have : a ≠ q := fun z => by subst z; rw [hq] at e; cases e
  rw [put_ne this]; exact h a u e
theorem Sub.none {S S' : Sto} {q : Addr} (h : Sub S S') (hq : S' q = none) : S q = none := by
  cases e : S q with
  | none => rfl
  | some o => rw [h q o e] at hq; cases hq
abbrev Bx := Int × Int × Int × Int
def bxW (b : Bx) : W := .tup [.int b.1, .int b.2.1, .int b.2.2.1, .int b.2.2.2]
def inB (b : Bx) (x y : Int) : Prop := b.1 ≤ x ∧ x < b.1 + b.2.2.1 ∧ b.2.1 ≤ y ∧ y < b.2.1 + b.2.2.2
def wide (b : Bx) : Bool := decide (0 < b.2.2.1) && decide (0 < b.2.2.2)
def rowOf (b : Bx) : Bx := (b.2.1, b.2.1 + b.2.2.2, b.1, b.1 + b.2.2.1)
def good (bx : List Bx) : List Bx := (bx.filter wide).map rowOf
structure IsReg (bx : List Bx) (r : Rg) : Prop where
  v : RgV r
  cells : ∀ x y, inR r x y ↔ ∃ b ∈ bx, inB b x y
  len : r.length ≤ 2 * bx.length
  lens : ∀ b ∈ r, b.2.2.length ≤ bx.length
def sp_region_of : MSp := fun ws S Q _ => ∃ (p : Addr) (bx : List Bx), ws = [.ref p] ∧ S p = some (.lst (bx.map bxW)) ∧ bx.length ≤ 1900 ∧ ∀ r, IsReg bx r → Q (rgW r) S
theorem sp_region_of.use {p : Addr} {bx : List Bx} {S : Sto} {Q : WQ} {X : XQ} (hS : S p = some (.lst (bx.map bxW))) (hl : bx.length ≤ 1900) (h : ∀ r, IsReg bx r → Q (rgW r) S) : sp_region_of [.ref p] S Q X := ⟨p, bx, rfl, hS, hl, h⟩
def N_is_whole : List Str := ["thing"]
def ir_is_whole : ISs := .cons (.ret (.and (.isa (.var 0) "int") (.not (.isa (.var 0) "bool")))) .nil
def sp_is_whole : MSp := fun ws S Q _ => ∃ i : Int, ws = [.int i] ∧ Q (.bl true) S
theorem sp_is_whole.use {i : Int} {S : Sto} {Q : WQ} {X : XQ} : sp_is_whole [.int i] S Q X = Q (.bl true) S :=
  propext ⟨fun ⟨_, _, h⟩ => h, fun h => ⟨i, rfl, h⟩⟩
def N_is_stretch : List Str := ["thing"]
def ir_is_stretch : ISs := .cons (.iff (.or (.not (.isa (.var 0) "tuple")) (.cmp .ne (.len (.var 0)) (.cst (.int 2)))) (.cons (.ret (.cst (.bl false))) .nil) (.nil)) (.cons (.ret (.and (.call 0 (.cons (.idx (.var 0) (.cst (.int 0))) .nil)) (.and (.call 0 (.cons (.idx (.var 0) (.cst (.int 1))) .nil)) (.cmp .lt (.idx (.var 0) (.cst (.int 0))) (.idx (.var 0) (.cst (.int 1))))))) .nil)
def N_are_spans : List Str := ["thing", "at"]
def ir_are_spans : ISs := .cons (.iff (.or (.not (.isa (.var 0) "tuple")) (.cmp .eq (.len (.var 0)) (.cst (.int 0)))) (.cons (.ret (.cst (.bl false))) .nil) (.nil)) (.cons (.for (.nm 1) (.rng (.len (.var 0))) (.cons (.iff (.not (.call 1 (.cons (.idx (.var 0) (.var 1)) .nil))) (.cons (.ret (.cst (.bl false))) .nil) (.nil)) (.cons (.iff (.and (.cmp .gt (.var 1) (.cst (.int 0))) (.cmp .le (.idx (.idx (.var 0) (.var 1)) (.cst (.int 0))) (.idx (.idx (.var 0) (.bin .sub (.var 1) (.cst (.int 1)))) (.cst (.int 1))))) (.cons (.ret (.cst (.bl false))) .nil) (.nil)) .nil))) (.cons (.ret (.cst (.bl true))) .nil))
theorem rng_rngOk {n : Nat} (h : n < 1000000) : rngOk (n : Int) := ⟨by omega, by omega⟩
theorem range_at {n k : Nat} {d r : List Nat} (h : List.range n = d ++ k :: r) : d.length = k ∧ k < n := by
  have e : (List.range n)[d.length]? = some k := by rw [h]; simp
  obtain ⟨h1, h2⟩ := List.getElem?_eq_some_iff.mp e
  rw [List.getElem_range] at h2
  rw [List.length_range] at h1
  omega
def N_is_region : List Str := ["thing", "at", "band"]
def ir_is_region : ISs := .cons (.iff (.not (.isa (.var 0) "tuple")) (.cons (.ret (.cst (.bl false))) .nil) (.nil)) (.cons (.for (.nm 1) (.rng (.len (.var 0))) (.cons (.set 2 (.idx (.var 0) (.var 1))) (.cons (.iff (.or (.not (.isa (.var 2) "tuple")) (.cmp .ne (.len (.var 2)) (.cst (.int 3)))) (.cons (.ret (.cst (.bl false))) .nil) (.nil)) (.cons (.iff (.or (.not (.call 1 (.cons (.slc (.var 2) (.none) (.some (.cst (.int 2)))) .nil))) (.not (.call 2 (.cons (.idx (.var 2) (.cst (.int 2))) .nil)))) (.cons (.ret (.cst (.bl false))) .nil) (.nil)) (.cons (.iff (.and (.cmp .gt (.var 1) (.cst (.int 0))) (.cmp .lt (.idx (.var 2) (.cst (.int 0))) (.idx (.idx (.var 0) (.bin .sub (.var 1) (.cst (.int 1)))) (.cst (.int 1))))) (.cons (.ret (.cst (.bl false))) .nil) (.nil)) (.cons (.iff (.and (.cmp .gt (.var 1) (.cst (.int 0))) (.and (.cmp .eq (.idx (.var 2) (.cst (.int 0))) (.idx (.idx (.var 0) (.bin .sub (.var 1) (.cst (.int 1)))) (.cst (.int 1)))) (.cmp .eq (.idx (.var 2) (.cst (.int 2))) (.idx (.idx (.var 0) (.bin .sub (.var 1) (.cst (.int 1)))) (.cst (.int 2)))))) (.cons (.ret (.cst (.bl false))) .nil) (.nil)) .nil)))))) (.cons (.ret (.cst (.bl true))) .nil))
theorem cutW_2 {α : Type} {a b : α} {l : List α} : cutW (a :: b :: l) none (some 2) = [a, b] := by
  unfold cutW HT.sIx
  simp
def sp_law_much : MSp := fun ws S Q _ => ∃ (p : Addr) (o : MO) (n : Nat), ws = [.ref p] ∧ S p = some o ∧ Tap n o ∧ n ≤ 9000000 ∧
  ∀ (r : Int) (o' : MO), -(10 ^ 61) < r → r < 10 ^ 61 → Tap (n + 5) o' → Q (.int r) (put S p o')
theorem sp_law_much.use {p : Addr} {o : MO} {n : Nat} {S : Sto} {Q : WQ} {X : XQ} (hS : S p = some o) (ht : Tap n o) (hn : n ≤ 9000000)
    (h : ∀ (r : Int) (o' : MO), -(10 ^ 61) < r → r < 10 ^ 61 → Tap (n + 5) o' → Q (.int r) (put S p o')) : sp_law_much [.ref p] S Q X := ⟨p, o, n, rfl, hS, ht, hn, h⟩
inductive TmW (S : Sto) : W → Prop
  | non : TmW S .non
  | bl (b : Bool) : TmW S (.bl b)
  | int (i : Int) : TmW S (.int i)
  | str (x : Str) : TmW S (.str x)
  | lst {a : Addr} {ws : List W} : S a = some (.lst ws) → TmW S (.ref a)
  | dk {a : Addr} {kvs : List (Key × W)} : S a = some (.dk false kvs) → TmW S (.ref a)
  | tup {ws : List W} : ws.length < 1000000 → (∀ w ∈ ws, TmW S w) → TmW S (.tup ws)
def isTp : W → Bool
  | .tup _ => true
  | _ => false
def isIn : W → Bool
  | .int _ => true
  | _ => false
def isBo : W → Bool
  | .bl _ => true
  | _ => false
theorem TmW.isT {S : Sto} {w : W} (h : TmW S w) : isaW w "tuple" S = some (isTp w) := by
  cases h with
  | lst e => unfold isaW tyW; simp only [e]; rfl
  | dk e => unfold isaW tyW; simp only [e]; rfl
  | _ => rfl
theorem TmW.isI {S : Sto} {w : W} (h : TmW S w) : isaW w "int" S = some (isIn w || isBo w) := by
  cases h with
  | lst e => unfold isaW tyW; simp only [e]; rfl
  | dk e => unfold isaW tyW; simp only [e]; rfl
  | _ => rfl
theorem TmW.isB {S : Sto} {w : W} (h : TmW S w) : isaW w "bool" S = some (isBo w) := by
  cases h with
  | lst e => unfold isaW tyW; simp only [e]; rfl
  | dk e => unfold isaW tyW; simp only [e]; rfl
  | _ => rfl
theorem TmW.parts {S : Sto} {ws : List W} (h : TmW S (.tup ws)) : ∀ w ∈ ws, TmW S w := by
  cases h; assumption
theorem TmW.few {S : Sto} {ws : List W} (h : TmW S (.tup ws)) : ws.length < 1000000 := by
  cases h; assumption
theorem TmW.sub {S S' : Sto} (k : Sub S S') {w : W} (h : TmW S w) : TmW S' w := by
  induction h with
  | non => exact .non
  | bl b => exact .bl b
  | int i => exact .int i
  | str x => exact .str x
  | lst e => exact .lst (k _ _ e)
  | dk e => exact .dk (k _ _ e)
  | tup hl _ ih => exact .tup hl ih
theorem isTp_of {w : W} (h : isTp w = true) : ∃ ws, w = .tup ws := by
  cases w <;> first | exact ⟨_, rfl⟩ | cases h
theorem isIn_of {w : W} (h : isIn w = true) : ∃ i, w = .int i := by
  cases w <;> first | exact ⟨_, rfl⟩ | cases h
def IsSt (w : W) : Prop := ∃ i j : Int, w = .tup [.int i, .int j] ∧ i < j
def RSt (a b : W) : Prop := ∀ i j m n : Int, a = .tup [.int i, .int j] → b = .tup [.int m, .int n] → j < m
def LSp (ws : List W) : Prop := (∀ w ∈ ws, IsSt w) ∧ Chn RSt ws
def IsSp (w : W) : Prop := ∃ ws, w = .tup ws ∧ ws ≠ [] ∧ LSp ws
def IsBd (w : W) : Prop := ∃ (i j : Int) (s : W), w = .tup [.int i, .int j, s] ∧ i < j ∧ IsSp s
def RBd (a b : W) : Prop := ∀ (i j m n : Int) (s t : W), a = .tup [.int i, .int j, s] → b = .tup [.int m, .int n, t] → ¬ m < j ∧ ¬ (m = j ∧ t = s)
def LRg (ws : List W) : Prop := (∀ w ∈ ws, IsBd w) ∧ Chn RBd ws
def IsRg (w : W) : Prop := ∃ ws, w = .tup ws ∧ LRg ws
theorem LSp.nil : LSp [] := ⟨fun _ h => (by cases h), Chn.nil⟩
theorem LSp.snoc {d : List W} {w : W} (h : LSp d) (hw : IsSt w) (hl : ∀ a, d.getLast? = some a → RSt a w) : LSp (d ++ [w]) :=
  ⟨fun v hv => by rcases List.mem_append.mp hv with z | z; exact h.1 v z; rw [List.mem_singleton.mp z]; exact hw, h.2.snoc hl⟩
theorem LSp.mid {d r : List W} {w : W} (h : LSp (d ++ w :: r)) : IsSt w ∧ ∀ a, d.getLast? = some a → RSt a w := ⟨h.1 w (by simp), fun _ e => h.2.last e⟩
theorem LRg.nil : LRg [] := ⟨fun _ h => (by cases h), Chn.nil⟩
theorem LRg.snoc {d : List W} {w : W} (h : LRg d) (hw : IsBd w) (hl : ∀ a, d.getLast? = some a → RBd a w) : LRg (d ++ [w]) :=
  ⟨fun v hv => by rcases List.mem_append.mp hv with z | z; exact h.1 v z; rw [List.mem_singleton.mp z]; exact hw, h.2.snoc hl⟩
theorem LRg.mid {d r : List W} {w : W} (h : LRg (d ++ w :: r)) : IsBd w ∧ ∀ a, d.getLast? = some a → RBd a w := ⟨h.1 w (by simp), fun _ e => h.2.last e⟩
theorem IsSp.up {ws : List W} (h : IsSp (.tup ws)) : ws ≠ [] ∧ LSp ws := by
  obtain ⟨vs, e, h⟩ := h; cases e; exact h
theorem IsRg.up {ws : List W} (h : IsRg (.tup ws)) : LRg ws := by
  obtain ⟨vs, e, h⟩ := h; cases e; exact h
theorem sps_of : ∀ {ws : List W}, (∀ w ∈ ws, IsSt w) → ∃ s : Sps, ws = s.map stW
  | [], _ => ⟨[], rfl⟩
  | w :: ws, h => by
    obtain ⟨i, j, e, _⟩ := h w (by simp)
    obtain ⟨s, hs⟩ := sps_of (ws := ws) fun v hv => h v (by simp [hv])
    exact ⟨(i, j) :: s, by rw [hs, e]; rfl⟩
theorem IsSp.sps {w : W} (h : IsSp w) : ∃ s : Sps, w = spsW s := by
  obtain ⟨ws, rfl, _, h, _⟩ := h
  obtain ⟨s, rfl⟩ := sps_of h
  exact ⟨s, rfl⟩
theorem spsW_inj {s t : Sps} (h : spsW s = spsW t) : s = t := by
  have h1 : s.map stW = t.map stW := by injection h
  exact List.map_inj_right (fun a b e => by
    unfold stW at e
    injection e with e; injection e with e1 e2; injection e1 with e1; injection e2 with e2 _; injection e2 with e2
    exact Prod.ext e1 e2) |>.mp h1
theorem cmp_isSp {v w : W} {Q : Bool → Prop} (hv : IsSp v) (hw : IsSp w) (h : ∀ b : Bool, (b = true ↔ v = w) → Q b) : cmpW .eq v w Q := by
  obtain ⟨s, rfl⟩ := hv.sps
  obtain ⟨t, rfl⟩ := hw.sps
  rw [cmp_sps]
  exact h _ ⟨fun z => by rw [of_decide_eq_true z], fun z => decide_eq_true (spsW_inj z)⟩
theorem last_at {d r : List W} {k : Nat} (hd : d.length = k) (hk : 0 < k) : ∃ a, d.getLast? = some a ∧ (d ++ r)[k - 1]? = some a := by
  have h1 : k - 1 < d.length := by omega
  refine ⟨d[k - 1], ?_, ?_⟩
  · rw [List.getLast?_eq_getElem?, hd, List.getElem?_eq_getElem h1]
  · rw [List.getElem?_append_left h1, List.getElem?_eq_getElem h1]
def sp_is_whole1 : MSp := fun ws S Q _ => ∃ w, ws = [w] ∧ TmW S w ∧ Q (.bl (isIn w)) S
theorem sp_is_whole1.use {w : W} {S : Sto} {Q : WQ} {X : XQ} (hw : TmW S w) (h : Q (.bl (isIn w)) S) : sp_is_whole1 [w] S Q X := ⟨w, rfl, hw, h⟩
theorem pf_is_whole__k01 (G : Gs) (ws : List W) (S : Sto) (Q : WQ) (X : XQ) (h : sp_is_whole1 ws S Q X) : ws.length = 1 ∧ wpF G 1 ir_is_whole ws S Q X := by
  obtain ⟨w, rfl, hw, hq⟩ := h
  refine ⟨rfl, ?_⟩
  unfold wpF ir_is_whole
  walk_at "wp"
  simp only [hw.isI, hw.isB]
  cases w <;> (walk_at "wp"; exact ⟨_, Sub.refl _, hq⟩)
def sp_law_whole1 : MSp := fun ws S Q _ => ∃ w, ws = [w] ∧ TmW S w ∧ Q (.bl (isIn w)) S
theorem sp_law_whole1.use {w : W} {S : Sto} {Q : WQ} {X : XQ} (hw : TmW S w) (h : Q (.bl (isIn w)) S) : sp_law_whole1 [w] S Q X := ⟨w, rfl, hw, h⟩
theorem pf_law_whole__k01 (G : Gs) (ws : List W) (S : Sto) (Q : WQ) (X : XQ) (h : sp_law_whole1 ws S Q X) : ws.length = 1 ∧ wpF G 1 ir_law_whole ws S Q X := by
  obtain ⟨w, rfl, hw, hq⟩ := h
  refine ⟨rfl, ?_⟩
  unfold wpF ir_law_whole
  walk_at "wp"
  simp only [hw.isI, hw.isB]
  cases w <;> (walk_at "wp"; exact ⟨_, Sub.refl _, hq⟩)
def sp_is_stretch1 : MSp := fun ws S Q _ => ∃ w, ws = [w] ∧ TmW S w ∧ ∀ b : Bool, (b = true ↔ IsSt w) → Q (.bl b) S
theorem sp_is_stretch1.use {w : W} {S : Sto} {Q : WQ} {X : XQ} (hw : TmW S w) (h : ∀ b : Bool, (b = true ↔ IsSt w) → Q (.bl b) S) : sp_is_stretch1 [w] S Q X := ⟨w, rfl, hw, h⟩
theorem pf_is_stretch__k01 (G : Gs) (hG0 : G 0 = sp_is_whole1) (ws : List W) (S : Sto) (Q : WQ) (X : XQ) (h : sp_is_stretch1 ws S Q X) : ws.length = 1 ∧ wpF G 1 ir_is_stretch ws S Q X := by
  obtain ⟨w, rfl, hw, hq⟩ := h
  refine ⟨rfl, ?_⟩
  unfold wpF ir_is_stretch
  walk_at "wp"
  simp only [hw.isT]
  cases hT : isTp w with
  | false =>
    walk_at "wp"
    exact ⟨_, Sub.refl _, hq false ⟨fun z => (by cases z), fun ⟨i, j, e, _⟩ => (by rw [e] at hT; cases hT)⟩⟩
  | true =>
    obtain ⟨vs, rfl⟩ := isTp_of hT
    walk_at "wp"
    by_cases hl : vs.length = 2
    · obtain ⟨a, b, rfl⟩ : ∃ a b, vs = [a, b] := by
        match vs, hl with
        | [a, b], _ => exact ⟨a, b, rfl⟩
      have ha := hw.parts a (by simp)
      have hb := hw.parts b (by simp)
      walk_at "wp"
      rw [hG0]
      refine sp_is_whole1.use ha ?_
      cases iA : isIn a with
      | false =>
        walk_at "wp"
        exact ⟨_, Sub.refl _, hq false ⟨fun z => (by cases z), fun ⟨i, j, e, _⟩ => (by cases e; cases iA)⟩⟩
      | true =>
        obtain ⟨i, rfl⟩ := isIn_of iA
        walk_at "wp"
        refine sp_is_whole1.use hb ?_
        cases iB : isIn b with
        | false =>
          walk_at "wp"
          exact ⟨_, Sub.refl _, hq false ⟨fun z => (by cases z), fun ⟨i, j, e, _⟩ => (by cases e; cases iB)⟩⟩
        | true =>
          obtain ⟨j, rfl⟩ := isIn_of iB
          walk_at "wp"
          exact ⟨_, Sub.refl _, hq _ ⟨fun z => ⟨i, j, rfl, of_decide_eq_true z⟩, fun ⟨m, n, e, h⟩ => (by cases e; exact decide_eq_true h)⟩⟩
    · rw [if_pos (by simp; omega)]
      exact ⟨_, Sub.refl _, hq false ⟨fun z => (by cases z), fun ⟨i, j, e, _⟩ => (by cases e; exact absurd rfl hl)⟩⟩
def sp_are_spans1 : MSp := fun ws S Q _ => ∃ w, ws = [w] ∧ TmW S w ∧ ∀ b : Bool, (b = true ↔ IsSp w) → Q (.bl b) S
theorem sp_are_spans1.use {w : W} {S : Sto} {Q : WQ} {X : XQ} (hw : TmW S w) (h : ∀ b : Bool, (b = true ↔ IsSp w) → Q (.bl b) S) : sp_are_spans1 [w] S Q X := ⟨w, rfl, hw, h⟩
theorem IsSp.no {w : W} (hT : isTp w = false) : ¬ IsSp w := fun ⟨ws, e, _⟩ => by rw [e] at hT; cases hT
theorem IsRg.no {w : W} (hT : isTp w = false) : ¬ IsRg w := fun ⟨ws, e, _⟩ => by rw [e] at hT; cases hT
theorem pf_are_spans__k01 (G : Gs) (hG1 : G 1 = sp_is_stretch1) (ws : List W) (S : Sto) (Q : WQ) (X : XQ) (h : sp_are_spans1 ws S Q X) : ws.length = 1 ∧ wpF G 2 ir_are_spans ws S Q X := by
  obtain ⟨w, rfl, hw, hq⟩ := h
  refine ⟨rfl, ?_⟩
  unfold wpF ir_are_spans
  walk_at "wp"
  simp only [hw.isT]
  cases hT : isTp w with
  | false =>
    walk_at "wp"
    exact ⟨_, Sub.refl _, hq false ⟨fun z => (by cases z), fun z => (IsSp.no hT z).elim⟩⟩
  | true =>
    obtain ⟨vs, rfl⟩ := isTp_of hT
    have hno : ¬ IsSp (.tup vs) → ∃ S2, Sub S2 S ∧ Q (.bl false) S2 := fun h => ⟨_, Sub.refl _, hq false ⟨fun z => (by cases z), fun z => (h z).elim⟩⟩
    walk_at "wp"
    by_cases h0 : vs = []
    · rw [if_pos (by simp [h0])]
      exact hno fun z => z.up.1 h0
    have hpos : 0 < vs.length := List.length_pos_iff.mpr h0
    rw [if_neg (by simp; omega)]
    walk_at "wp"
    refine ⟨rng_rngOk hw.few, ?_⟩
    rw [Int.toNat_natCast]
    refine ForG.map (List.range vs.length) (fun (k : Nat) => .int (0 + k)) rfl (fun d _ σ S' => S' = S ∧ ∃ (b : Option W) (d' r' : List W), σ = [some (.tup vs), b] ∧ vs = d' ++ r' ∧ d'.length = d.length ∧ LSp d') S (Sub.refl _) ⟨rfl, _, [], vs, rfl, rfl, rfl, LSp.nil⟩ ?_ ?_
    · rintro d k r σ S' he ⟨rfl, b, d', r', rfl, hv, hl, hL⟩
      obtain ⟨hdk, hk⟩ := range_at he
      obtain ⟨w, r2, rfl⟩ : ∃ w r2, r' = w :: r2 := by
        cases r' with
        | nil => rw [hv, List.append_nil] at hk; omega
        | cons w r2 => exact ⟨_, _, rfl⟩
      have e1 : vs[k]? = some w := by rw [hv, List.getElem?_append_right (by omega), hl, hdk, Nat.sub_self]; rfl
      have a1 : atI vs (0 + (k : Int)) = some w := by rw [Int.zero_add]; exact atI_nat e1
      have hw1 := hw.parts w (by rw [hv]; simp)
      walk_at "wp"
      simp only [a1, hG1]
      refine sp_is_stretch1.use hw1 fun b hb => ?_
      cases b with
      | false =>
        walk_at "wp"
        exact hno fun z => by
          rw [hv] at z
          exact absurd (hb.mpr z.up.2.mid.1) (by simp)
      | true =>
        have hs := hb.mp rfl
        obtain ⟨m, n, rfl, hmn⟩ := id hs
        walk_at "wp"
        by_cases hk0 : 0 < 0 + (k : Int)
        · rw [if_pos hk0]
          obtain ⟨a, ha, ha'⟩ := last_at (r := .tup [.int m, .int n] :: r2) (hl.trans hdk) (by omega)
          obtain ⟨i, j, rfl, hij⟩ := hL.1 a (List.mem_of_getLast? ha)
          have a2 : atI vs (0 + (k : Int) - 1) = some (.tup [.int i, .int j]) := by
            have e : 0 + (k : Int) - 1 = ((k - 1 : Nat) : Int) := by omega
            rw [e, hv]; exact atI_nat ha'
          simp only [a1, a2]
          walk_at "wp"
          by_cases hjm : m ≤ j
          · rw [if_pos hjm]
            exact hno fun z => by
              rw [hv] at z
              have := z.up.2.mid.2 _ ha i j m n rfl rfl
              omega
          · rw [if_neg hjm]
            refine ⟨_, d' ++ [.tup [.int m, .int n]], r2, rfl, by rw [hv]; simp, by simp [hl], hL.snoc hs fun a h2 => ?_⟩
            rw [ha] at h2
            cases h2
            rintro _ _ _ _ e1 e2
            cases e1; cases e2; omega
        · rw [if_neg hk0]
          refine ⟨_, d' ++ [.tup [.int m, .int n]], r2, rfl, by rw [hv]; simp, by simp [hl], hL.snoc hs fun a h2 => ?_⟩
          have : d' = [] := List.length_eq_zero_iff.mp (by omega)
          rw [this] at h2; cases h2
    · rintro σ S' ⟨rfl, b, d', r', rfl, hv, hl, hL⟩
      walk_at "wp"
      have hr : r' = [] := by
        have := congrArg List.length hv
        rw [List.length_append, hl, List.length_range] at this
        exact List.length_eq_zero_iff.mp (by omega)
      rw [hr, List.append_nil] at hv
      exact ⟨_, Sub.refl _, hq true ⟨fun _ => ⟨vs, rfl, h0, hv ▸ hL⟩, fun _ => rfl⟩⟩
def sp_is_region1 : MSp := fun ws S Q _ => ∃ w, ws = [w] ∧ TmW S w ∧ ∀ b : Bool, (b = true ↔ IsRg w) → Q (.bl b) S
theorem sp_is_region1.use {w : W} {S : Sto} {Q : WQ} {X : XQ} (hw : TmW S w) (h : ∀ b : Bool, (b = true ↔ IsRg w) → Q (.bl b) S) : sp_is_region1 [w] S Q X := ⟨w, rfl, hw, h⟩
theorem two_ok {S : Sto} {a b c : W} (h : TmW S (.tup [a, b, c])) : TmW S (.tup [a, b]) := .tup (by simp) fun v hv => h.parts v (by
  simp only [List.mem_cons, List.not_mem_nil, or_false] at hv ⊢
  rcases hv with z | z
  · exact .inl z
  · exact .inr (.inl z))
theorem pf_is_region__k01 (G : Gs) (hG1 : G 1 = sp_is_stretch1) (hG2 : G 2 = sp_are_spans1) (ws : List W) (S : Sto) (Q : WQ) (X : XQ) (h : sp_is_region1 ws S Q X) : ws.length = 1 ∧ wpF G 3 ir_is_region ws S Q X := by
  obtain ⟨w, rfl, hw, hq⟩ := h
  refine ⟨rfl, ?_⟩
  unfold wpF ir_is_region
  walk_at "wp"
  simp only [hw.isT]
  cases hT : isTp w with
  | false =>
    walk_at "wp"
    exact ⟨_, Sub.refl _, hq false ⟨fun z => (by cases z), fun z => (IsRg.no hT z).elim⟩⟩
  | true =>
    obtain ⟨vs, rfl⟩ := isTp_of hT
    have hno : ¬ IsRg (.tup vs) → ∃ S2, Sub S2 S ∧ Q (.bl false) S2 := fun h => ⟨_, Sub.refl _, hq false ⟨fun z => (by cases z), fun z => (h z).elim⟩⟩
    walk_at "wp"
    refine ⟨rng_rngOk hw.few, ?_⟩
    rw [Int.toNat_natCast]
    refine ForG.map (List.range vs.length) (fun (k : Nat) => .int (0 + k)) rfl (fun d _ σ S' => S' = S ∧ ∃ (b c : Option W) (d' r' : List W), σ = [some (.tup vs), b, c] ∧ vs = d' ++ r' ∧ d'.length = d.length ∧ LRg d') S (Sub.refl _) ⟨rfl, _, _, [], vs, rfl, rfl, rfl, LRg.nil⟩ ?_ ?_
    · rintro d k r σ S' he ⟨rfl, b, c, d', r', rfl, hv, hl, hL⟩
      obtain ⟨hdk, hk⟩ := range_at he
      obtain ⟨w, r2, rfl⟩ : ∃ w r2, r' = w :: r2 := by
        cases r' with
        | nil => rw [hv, List.append_nil] at hk; omega
        | cons w r2 => exact ⟨_, _, rfl⟩
      have e1 : vs[k]? = some w := by rw [hv, List.getElem?_append_right (by omega), hl, hdk, Nat.sub_self]; rfl
      have a1 : atI vs (0 + (k : Int)) = some w := by rw [Int.zero_add]; exact atI_nat e1
      have hw1 := hw.parts w (by rw [hv]; simp)
      have hbd : IsRg (.tup vs) → IsBd w ∧ ∀ a, d'.getLast? = some a → RBd a w := fun z => by
        rw [hv] at z
        exact z.up.mid
      walk_at "wp"
      simp only [a1]
      walk_at "wp"
      simp only [hw1.isT]
      cases hT1 : isTp w with
      | false =>
        walk_at "wp"
        exact hno fun z => by
          obtain ⟨i, j, s, e, _⟩ := (hbd z).1
          rw [e] at hT1; cases hT1
      | true =>
        obtain ⟨us, rfl⟩ := isTp_of hT1
        walk_at "wp"
        by_cases h3 : us.length = 3
        · obtain ⟨x, y, s, rfl⟩ : ∃ x y s, us = [x, y, s] := by
            match us, h3 with
            | [x, y, s], _ => exact ⟨x, y, s, rfl⟩
          rw [if_neg (by simp)]
          walk_at "wp"
          rw [cutW_2, hG1]
          refine sp_is_stretch1.use (two_ok hw1) fun b1 hb1 => ?_
          cases b1 with
          | false =>
            walk_at "wp"
            exact hno fun z => by
              obtain ⟨i, j, t, e, h, _⟩ := (hbd z).1
              cases e
              exact absurd (hb1.mpr ⟨_, _, rfl, h⟩) (by simp)
          | true =>
            obtain ⟨m, n, e, hmn⟩ := hb1.mp rfl
            cases e
            walk_at "wp"
            rw [hG2]
            refine sp_are_spans1.use (hw1.parts s (by simp)) fun b2 hb2 => ?_
            cases b2 with
            | false =>
              walk_at "wp"
              exact hno fun z => by
                obtain ⟨i, j, t, e, _, h⟩ := (hbd z).1
                cases e
                exact absurd (hb2.mpr h) (by simp)
            | true =>
              have hS := hb2.mp rfl
              have hB : IsBd (.tup [.int m, .int n, s]) := ⟨m, n, s, rfl, hmn, hS⟩
              walk_at "wp"
              by_cases hk0 : 0 < 0 + (k : Int)
              · rw [if_pos hk0]
                obtain ⟨a, ha, ha'⟩ := last_at (r := .tup [.int m, .int n, s] :: r2) (hl.trans hdk) (by omega)
                obtain ⟨i, j, t, rfl, hij, hSt⟩ := hL.1 a (List.mem_of_getLast? ha)
                have a2 : atI vs (0 + (k : Int) - 1) = some (.tup [.int i, .int j, t]) := by
                  have e : 0 + (k : Int) - 1 = ((k - 1 : Nat) : Int) := by omega
                  rw [e, hv]; exact atI_nat ha'
                have hR : RBd (.tup [.int i, .int j, t]) (.tup [.int m, .int n, s]) ↔ ¬ m < j ∧ ¬ (m = j ∧ s = t) := ⟨fun h => h _ _ _ _ _ _ rfl rfl, fun h => by
                  rintro _ _ _ _ _ _ e1 e2
                  cases e1; cases e2; exact h⟩
                simp only [a2]
                walk_at "wp"
                by_cases hjm : m < j
                · rw [if_pos hjm]
                  exact hno fun z => ((hR.mp ((hbd z).2 _ ha)).1 hjm).elim
                · rw [if_neg hjm]
                  have fin : ¬ (m = j ∧ s = t) → ∃ (b c : Option W) (d'' r'' : List W), [some (W.tup vs), some (.int (0 + (k : Int))), some (.tup [.int m, .int n, s])] = [some (.tup vs), b, c] ∧ vs = d'' ++ r'' ∧ d''.length = (d ++ [k]).length ∧ LRg d'' := fun h =>
                    ⟨_, _, d' ++ [.tup [.int m, .int n, s]], r2, rfl, by rw [hv]; simp, by simp [hl], hL.snoc hB fun a h2 => by
                      rw [ha] at h2
                      cases h2
                      exact hR.mpr ⟨hjm, h⟩⟩
                  rw [if_pos hk0]
                  by_cases hj : m = j
                  · rw [if_pos hj]
                    refine cmp_isSp hS hSt fun b hb => ?_
                    cases b with
                    | true =>
                      rw [if_tt]
                      exact hno fun z => ((hR.mp ((hbd z).2 _ ha)).2 ⟨hj, hb.mp rfl⟩).elim
                    | false =>
                      rw [if_ff]
                      exact fin fun z => absurd (hb.mpr z.2) (by simp)
                  · rw [if_neg hj]
                    exact fin fun z => hj z.1
              · rw [if_neg hk0]
                walk_at "wp"
                rw [if_neg hk0]
                refine ⟨_, _, d' ++ [.tup [.int m, .int n, s]], r2, rfl, by rw [hv]; simp, by simp [hl], hL.snoc hB fun a h2 => ?_⟩
                have : d' = [] := List.length_eq_zero_iff.mp (by omega)
                rw [this] at h2; cases h2
        · rw [if_pos (by simp; omega)]
          exact hno fun z => by
            obtain ⟨i, j, s, e, _⟩ := (hbd z).1
            cases e; exact h3 rfl
    · rintro σ S' ⟨rfl, b, c, d', r', rfl, hv, hl, hL⟩
      walk_at "wp"
      have hr : r' = [] := by
        have := congrArg List.length hv
        rw [List.length_append, hl, List.length_range] at this
        exact List.length_eq_zero_iff.mp (by omega)
      rw [hr, List.append_nil] at hv
      exact ⟨_, Sub.refl _, hq true ⟨fun _ => ⟨vs, rfl, hv ▸ hL⟩, fun _ => rfl⟩⟩
def sp_law_are_spans1 : MSp := fun ws S Q _ => ∃ w, ws = [w] ∧ TmW S w ∧ ∀ b : Bool, (b = true ↔ IsSp w) → Q (.bl b) S
theorem sp_law_are_spans1.use {w : W} {S : Sto} {Q : WQ} {X : XQ} (hw : TmW S w) (h : ∀ b : Bool, (b = true ↔ IsSp w) → Q (.bl b) S) : sp_law_are_spans1 [w] S Q X := ⟨w, rfl, hw, h⟩
theorem eqE_nil {ws : List W} {Q : Bool → Prop} : eqEW (.tup ws) (.tup []) Q = Q ws.isEmpty := rfl
theorem map_id' {vs : List W} : vs = vs.map fun w => w := by rw [List.map_id']
theorem pf_law_are_spans__k01 (G : Gs) (hG10 : G 10 = sp_law_whole1) (ws : List W) (S : Sto) (Q : WQ) (X : XQ) (h : sp_law_are_spans1 ws S Q X) : ws.length = 1 ∧ wpF G 3 ir_law_are_spans ws S Q X := by
  obtain ⟨w, rfl, hw, hq⟩ := h
  refine ⟨rfl, ?_⟩
  unfold wpF ir_law_are_spans
  walk_at "wp"
  simp only [hw.isT]
  cases hT : isTp w with
  | false =>
    walk_at "wp"
    exact ⟨_, Sub.refl _, hq false ⟨fun z => (by cases z), fun z => (IsSp.no hT z).elim⟩⟩
  | true =>
    obtain ⟨vs, rfl⟩ := isTp_of hT
    have hno : ¬ IsSp (.tup vs) → ∃ S2, Sub S2 S ∧ Q (.bl false) S2 := fun h => ⟨_, Sub.refl _, hq false ⟨fun z => (by cases z), fun z => (h z).elim⟩⟩
    walk_at "wp"
    rw [eqE_nil]
    refine ⟨Nat.zero_le _, ?_⟩
    by_cases h0 : vs = []
    · rw [if_pos (by simp [h0])]
      exact hno fun z => z.up.1 h0
    rw [if_neg (by simpa using h0)]
    refine ForG.map vs (fun w => w) map_id' (fun d _ σ S' => S' = S ∧ ∃ (a : W) (b : Option W), σ = [some (.tup vs), some a, b] ∧ LSp d ∧ ((d = [] ∧ a = .non) ∨ ∃ i j : Int, d.getLast? = some (.tup [.int i, .int j]) ∧ a = .int j)) S (Sub.refl _) ⟨rfl, _, _, rfl, LSp.nil, .inl ⟨rfl, rfl⟩⟩ ?_ ?_
    · rintro d w r σ S' hv ⟨rfl, a, b, rfl, hL, ha⟩
      have hw1 := hw.parts w (by rw [hv]; simp)
      have hmid : IsSp (.tup vs) → IsSt w ∧ ∀ a, d.getLast? = some a → RSt a w := fun z => by
        rw [hv] at z
        exact z.up.2.mid
      walk_at "wp"
      simp only [hw1.isT]
      cases hT1 : isTp w with
      | false =>
        walk_at "wp"
        exact hno fun z => by
          obtain ⟨i, j, e, _⟩ := (hmid z).1
          rw [e] at hT1; cases hT1
      | true =>
        obtain ⟨us, rfl⟩ := isTp_of hT1
        walk_at "wp"
        by_cases h2 : us.length = 2
        · obtain ⟨x, y, rfl⟩ : ∃ x y, us = [x, y] := by
            match us, h2 with
            | [x, y], _ => exact ⟨x, y, rfl⟩
          rw [if_neg (by simp)]
          walk_at "wp"
          rw [hG10]
          refine sp_law_whole1.use (hw1.parts x (by simp)) ?_
          cases iX : isIn x with
          | false =>
            walk_at "wp"
            exact hno fun z => by
              obtain ⟨i, j, e, _⟩ := (hmid z).1
              cases e; cases iX
          | true =>
            obtain ⟨m, rfl⟩ := isIn_of iX
            walk_at "wp"
            refine sp_law_whole1.use (hw1.parts y (by simp)) ?_
            cases iY : isIn y with
            | false =>
              walk_at "wp"
              exact hno fun z => by
                obtain ⟨i, j, e, _⟩ := (hmid z).1
                cases e; cases iY
            | true =>
              obtain ⟨n, rfl⟩ := isIn_of iY
              walk_at "wp"
              by_cases hmn : n ≤ m
              · rw [if_pos hmn]
                exact hno fun z => by
                  obtain ⟨i, j, e, h⟩ := (hmid z).1
                  cases e; omega
              · rw [if_neg hmn]
                have hs : IsSt (.tup [.int m, .int n]) := ⟨m, n, rfl, by omega⟩
                rcases ha with ⟨rfl, rfl⟩ | ⟨i, j, hl, rfl⟩
                · walk_at "wp"
                  exact ⟨_, _, rfl, hL.snoc hs fun a h => (by cases h), .inr ⟨m, n, by simp, rfl⟩⟩
                · walk_at "wp"
                  by_cases hmj : m ≤ j
                  · rw [if_pos hmj]
                    exact hno fun z => by
                      have := (hmid z).2 _ hl i j m n rfl rfl
                      omega
                  · rw [if_neg hmj]
                    refine ⟨_, _, rfl, hL.snoc hs fun a h => ?_, .inr ⟨m, n, by simp, rfl⟩⟩
                    rw [hl] at h
                    cases h
                    rintro _ _ _ _ e1 e2
                    cases e1; cases e2; omega
        · rw [if_pos (by simp; omega)]
          exact hno fun z => by
            obtain ⟨i, j, e, _⟩ := (hmid z).1
            cases e; exact h2 rfl
    · rintro σ S' ⟨rfl, a, b, rfl, hL, ha⟩
      walk_at "wp"
      exact ⟨_, Sub.refl _, hq true ⟨fun _ => ⟨vs, rfl, h0, hL⟩, fun _ => rfl⟩⟩
def sp_law_is_region1 : MSp := fun ws S Q _ => ∃ w, ws = [w] ∧ TmW S w ∧ ∀ b : Bool, (b = true ↔ IsRg w) → Q (.bl b) S
theorem sp_law_is_region1.use {w : W} {S : Sto} {Q : WQ} {X : XQ} (hw : TmW S w) (h : ∀ b : Bool, (b = true ↔ IsRg w) → Q (.bl b) S) : sp_law_is_region1 [w] S Q X := ⟨w, rfl, hw, h⟩
theorem pf_law_is_region__k01 (G : Gs) (hG10 : G 10 = sp_law_whole1) (hG11 : G 11 = sp_law_are_spans1) (ws : List W) (S : Sto) (Q : WQ) (X : XQ) (h : sp_law_is_region1 ws S Q X) : ws.length = 1 ∧ wpF G 3 ir_law_is_region ws S Q X := by
  obtain ⟨w, rfl, hw, hq⟩ := h
  refine ⟨rfl, ?_⟩
  unfold wpF ir_law_is_region
  walk_at "wp"
  simp only [hw.isT]
  cases hT : isTp w with
  | false =>
    walk_at "wp"
    exact ⟨_, Sub.refl _, hq false ⟨fun z => (by cases z), fun z => (IsRg.no hT z).elim⟩⟩
  | true =>
    obtain ⟨vs, rfl⟩ := isTp_of hT
    have hno : ¬ IsRg (.tup vs) → ∃ S2, Sub S2 S ∧ Q (.bl false) S2 := fun h => ⟨_, Sub.refl _, hq false ⟨fun z => (by cases z), fun z => (h z).elim⟩⟩
    walk_at "wp"
    refine ForG.map vs (fun w => w) map_id' (fun d _ σ S' => S' = S ∧ ∃ (a : W) (b : Option W), σ = [some (.tup vs), some a, b] ∧ LRg d ∧ ((d = [] ∧ a = .non) ∨ d.getLast? = some a)) S (Sub.refl _) ⟨rfl, _, _, rfl, LRg.nil, .inl ⟨rfl, rfl⟩⟩ ?_ ?_
    · rintro d w r σ S' hv ⟨rfl, a, b, rfl, hL, ha⟩
      have hw1 := hw.parts w (by rw [hv]; simp)
      have hmid : IsRg (.tup vs) → IsBd w ∧ ∀ a, d.getLast? = some a → RBd a w := fun z => by
        rw [hv] at z
        exact z.up.mid
      walk_at "wp"
      simp only [hw1.isT]
      cases hT1 : isTp w with
      | false =>
        walk_at "wp"
        exact hno fun z => by
          obtain ⟨i, j, s, e, _⟩ := (hmid z).1
          rw [e] at hT1; cases hT1
      | true =>
        obtain ⟨us, rfl⟩ := isTp_of hT1
        walk_at "wp"
        by_cases h3 : us.length = 3
        · obtain ⟨x, y, s, rfl⟩ : ∃ x y s, us = [x, y, s] := by
            match us, h3 with
            | [x, y, s], _ => exact ⟨x, y, s, rfl⟩
          rw [if_neg (by simp)]
          walk_at "wp"
          rw [hG10]
          refine sp_law_whole1.use (hw1.parts x (by simp)) ?_
          cases iX : isIn x with
          | false =>
            walk_at "wp"
            exact hno fun z => by
              obtain ⟨i, j, s, e, _⟩ := (hmid z).1
              cases e; cases iX
          | true =>
            obtain ⟨m, rfl⟩ := isIn_of iX
            walk_at "wp"
            refine sp_law_whole1.use (hw1.parts y (by simp)) ?_
            cases iY : isIn y with
            | false =>
              walk_at "wp"
              exact hno fun z => by
                obtain ⟨i, j, s, e, _⟩ := (hmid z).1
                cases e; cases iY
            | true =>
              obtain ⟨n, rfl⟩ := isIn_of iY
              walk_at "wp"
              by_cases hmn : n ≤ m
              · rw [if_pos hmn]
                exact hno fun z => by
                  obtain ⟨i, j, s, e, h, _⟩ := (hmid z).1
                  cases e; omega
              · rw [if_neg hmn, hG11]
                refine sp_law_are_spans1.use (hw1.parts s (by simp)) fun b2 hb2 => ?_
                cases b2 with
                | false =>
                  walk_at "wp"
                  exact hno fun z => by
                    obtain ⟨i, j, t, e, _, h⟩ := (hmid z).1
                    cases e
                    exact absurd (hb2.mpr h) (by simp)
                | true =>
                  have hS := hb2.mp rfl
                  have hB : IsBd (.tup [.int m, .int n, s]) := ⟨m, n, s, rfl, by omega, hS⟩
                  rcases ha with ⟨rfl, rfl⟩ | hl
                  · walk_at "wp"
                    exact ⟨_, _, rfl, hL.snoc hB fun a h => (by cases h), .inr (by simp)⟩
                  · obtain ⟨i, j, t, rfl, hij, hSt⟩ := hL.1 a (List.mem_of_getLast? hl)
                    have hR : RBd (.tup [.int i, .int j, t]) (.tup [.int m, .int n, s]) ↔ ¬ m < j ∧ ¬ (m = j ∧ s = t) := ⟨fun h => h _ _ _ _ _ _ rfl rfl, fun h => by
                      rintro _ _ _ _ _ _ e1 e2
                      cases e1; cases e2; exact h⟩
                    walk_at "wp"
                    by_cases hjm : m < j
                    · rw [if_pos hjm]
                      exact hno fun z => ((hR.mp ((hmid z).2 _ hl)).1 hjm).elim
                    · rw [if_neg hjm]
                      have fin : ¬ (m = j ∧ s = t) → ∃ (a : W) (b : Option W), [some (W.tup vs), some (.tup [.int m, .int n, s]), some (.tup [.int m, .int n, s])] = [some (.tup vs), some a, b] ∧ LRg (d ++ [W.tup [.int m, .int n, s]]) ∧ ((d ++ [W.tup [.int m, .int n, s]] = [] ∧ a = .non) ∨ (d ++ [W.tup [.int m, .int n, s]]).getLast? = some a) := fun h =>
                        ⟨_, _, rfl, hL.snoc hB fun a h2 => by
                          rw [hl] at h2
                          cases h2
                          exact hR.mpr ⟨hjm, h⟩, .inr (by simp)⟩
                      by_cases hj : m = j
                      · rw [if_pos hj]
                        refine cmp_isSp hS hSt fun b hb => ?_
                        cases b with
                        | true =>
                          rw [if_tt]
                          exact hno fun z => ((hR.mp ((hmid z).2 _ hl)).2 ⟨hj, hb.mp rfl⟩).elim
                        | false =>
                          rw [if_ff]
                          exact fin fun z => absurd (hb.mpr z.2) (by simp)
                      · rw [if_neg hj]
                        exact fin fun z => hj z.1
        · rw [if_pos (by simp; omega)]
          exact hno fun z => by
            obtain ⟨i, j, s, e, _⟩ := (hmid z).1
            cases e; exact h3 rfl
    · rintro σ S' ⟨rfl, a, b, rfl, hL, ha⟩
      walk_at "wp"
      exact ⟨_, Sub.refl _, hq true ⟨fun _ => ⟨vs, rfl, hL⟩, fun _ => rfl⟩⟩
abbrev SgN (k : Nat) : Prop := 32 ≤ k ∧ k < 127 ∧ k ≠ 37
def SgOk (c : Str) : Prop := ∃ k, c = ⟨#[k]⟩ ∧ SgN k
def SgT (s : Str) : Prop := ∀ c ∈ s.cps.toList, SgN c
theorem SgOk.of {s : Str} (h : s.length = 1) (k : SgT s) : SgOk s := by
  obtain ⟨c⟩ := s
  have h1 : c.size = 1 := h
  obtain ⟨a, rfl⟩ := Array.size_eq_one_iff.mp h1
  exact ⟨a, rfl, k a (by simp)⟩
theorem SgOk.len {c : Str} (h : SgOk c) : c.length = 1 := by obtain ⟨k, rfl, _⟩ := h; rfl
theorem SgOk.shaped {c : Str} (h : SgOk c) : SeqAt.shaped (W.str c).dat = true := by
  obtain ⟨k, rfl, hk⟩ := h
  have hk : k < 1114112 := by omega
  unfold SeqAt.shaped
  rw [Bool.and_eq_true]
  refine ⟨?_, rfl⟩
  show ((#[k] : Array Nat).all (· < 0x110000)) = true
  simpa using hk
structure ShW (d : Nat) (w : W) : Prop where
  pr : w.pure = true
  ly : w.dat.canLay0 = true
  dp : w.dat.depth ≤ d
theorem ShW.mono {d d' : Nat} {w : W} (h : ShW d w) (k : d ≤ d') : ShW d' w := ⟨h.pr, h.ly, Nat.le_trans h.dp k⟩
theorem ShW.int {d : Nat} {i : Int} : ShW d (.int i) := ⟨rfl, rfl, Nat.zero_le _⟩
theorem ShW.bl {d : Nat} {i : Bool} : ShW d (.bl i) := ⟨rfl, rfl, Nat.zero_le _⟩
theorem ShW.non {d : Nat} : ShW d .non := ⟨rfl, rfl, Nat.zero_le _⟩
theorem ShW.str {d : Nat} {s : Str} (h : SeqAt.shaped (W.str s).dat = true) : ShW d (.str s) := ⟨rfl, SeqAt.canLay_of_shaped h, Nat.zero_le _⟩
theorem ShW.alls {d : Nat} : ∀ {ws : List W}, (∀ w ∈ ws, ShW d w) → W.pures ws = true ∧ PyData.canLayAll0 (W.dats ws) = true ∧ PyData.depthAll (W.dats ws) ≤ d
  | [], _ => ⟨rfl, rfl, Nat.zero_le _⟩
  | w :: ws, h => by
    obtain ⟨a, b, c⟩ := ShW.alls (ws := ws) fun v hv => h v (List.mem_cons_of_mem _ hv)
    have hw := h w (List.mem_cons_self ..)
    refine ⟨?_, ?_, ?_⟩
    · rw [W.pures, hw.pr, a]; rfl
    · rw [W.dats, PyData.canLayAll0, hw.ly, b]; rfl
    · rw [W.dats, PyData.depthAll]; exact Nat.max_le.mpr ⟨hw.dp, c⟩
theorem ShW.tup {d : Nat} {ws : List W} (h : ∀ w ∈ ws, ShW d w) : ShW (d + 1) (.tup ws) := by
  obtain ⟨a, b, c⟩ := ShW.alls h
  exact ⟨a, b, Nat.succ_le_succ c⟩
theorem ShW.eqOk {d : Nat} {w : W} (h : ShW d w) (hd : d ≤ 60) : w.eqOk := ⟨h.pr, by
  unfold SeqAt.shaped
  rw [h.ly, decide_eq_true (by have := h.dp; omega)]; rfl⟩
theorem ShW.eqsOk {d : Nat} {ws : List W} (h : ∀ w ∈ ws, ShW d w) (hd : d ≤ 60) : W.eqsOk ws := by
  obtain ⟨a, b, c⟩ := ShW.alls h
  refine ⟨a, ?_⟩
  unfold SeqAt.shaped
  have h1 : (PyData.list (W.dats ws)).canLay0 = true := b
  have h2 : (PyData.list (W.dats ws)).depth ≤ d + 1 := Nat.succ_le_succ c
  rw [h1, decide_eq_true (by omega)]; rfl
def PtD : Nat → W → Prop
  | 0, w => ∃ i : Int, w = .int i
  | d + 1, w => (∃ i : Int, w = .int i) ∨ ∃ ws, w = .tup ws ∧ ws.length ≤ 100 ∧ ∀ v ∈ ws, PtD d v
theorem PtD.int {i : Int} : ∀ {d : Nat}, PtD d (.int i)
  | 0 => ⟨i, rfl⟩
  | _ + 1 => .inl ⟨i, rfl⟩
theorem PtD.tm {S : Sto} : ∀ {d : Nat} {w : W}, PtD d w → TmW S w
  | 0, _, ⟨i, e⟩ => e ▸ .int i
  | _ + 1, _, .inl ⟨i, e⟩ => e ▸ .int i
  | _ + 1, _, .inr ⟨_, e, hl, h⟩ => e ▸ .tup (by omega) fun v hv => PtD.tm (h v hv)
theorem PtD.sh : ∀ {d : Nat} {w : W}, PtD d w → ShW d w
  | 0, _, ⟨i, e⟩ => e ▸ .int
  | _ + 1, _, .inl ⟨i, e⟩ => e ▸ .int
  | _ + 1, _, .inr ⟨_, e, _, h⟩ => e ▸ .tup fun v hv => PtD.sh (h v hv)
theorem PtD.parts : ∀ {d : Nat} {ws : List W}, PtD d (.tup ws) → ∃ d', d = d' + 1 ∧ ws.length ≤ 100 ∧ ∀ v ∈ ws, PtD d' v
  | 0, _, ⟨i, e⟩ => by cases e
  | d + 1, _, .inl ⟨i, e⟩ => by cases e
  | d + 1, _, .inr ⟨_, e, hl, h⟩ => by cases e; exact ⟨d, rfl, hl, h⟩
theorem PtD.split {d : Nat} {w : W} (h : PtD d w) : (∃ i, w = .int i) ∨ ∃ ws, w = .tup ws := by
  cases d with
  | zero => exact .inl h
  | succ d =>
    rcases h with h | ⟨ws, e, _⟩
    · exact .inl h
    · exact .inr ⟨ws, e⟩
theorem PtD.rg {r : Rg} (h : RgOk r) : PtD 4 (rgW r) := .inr ⟨_, rfl, by rw [List.length_map]; have := h.len; omega, fun v hv => by
  obtain ⟨b, hb, rfl⟩ := List.mem_map.mp hv
  have hs := (h.bd b hb).2
  refine .inr ⟨_, rfl, by simp, fun u hu => ?_⟩
  simp only [List.mem_cons, List.not_mem_nil, or_false] at hu
  rcases hu with rfl | rfl | rfl
  · exact .int
  · exact .int
  · refine .inr ⟨_, rfl, by rw [List.length_map]; have := hs.len; omega, fun t ht => ?_⟩
    obtain ⟨q, _, rfl⟩ := List.mem_map.mp ht
    refine .inr ⟨_, rfl, by simp, fun u hu => ?_⟩
    simp only [List.mem_cons, List.not_mem_nil, or_false] at hu
    rcases hu with rfl | rfl
    · exact .int
    · exact .int⟩
theorem TmW.tap {T : Sto} {p : Addr} {o o' : MO} {n m : Nat} (hp : T p = some o) (ho : Tap n o) (ho' : Tap m o') {w : W} (h : TmW T w) : TmW (put T p o') w := by
  obtain ⟨x, y, z, rfl, _⟩ := ho
  obtain ⟨x', y', z', rfl, _⟩ := ho'
  induction h with
  | non => exact .non
  | bl b => exact .bl b
  | int i => exact .int i
  | str x => exact .str x
  | lst e =>
    rename_i a ws
    by_cases ha : a = p
    · rw [ha]; exact .lst put_same
    · exact .lst (by rw [put_ne ha]; exact e)
  | dk e =>
    rename_i a kvs
    by_cases ha : a = p
    · rw [ha, hp] at e; cases e
    · exact .dk (by rw [put_ne ha]; exact e)
  | tup hl _ ih => exact .tup hl ih
theorem sub_reput {S T : Sto} {p : Addr} {o o' : MO} (h : Sub (put S p o) T) : Sub (put S p o') (put T p o') := fun a u e => by
  by_cases ha : a = p
  · subst ha; rw [put_same] at e ⊢; exact e
  · rw [put_ne ha] at e ⊢
    exact h a u (by rw [put_ne ha]; exact e)
theorem cutW_len {ws : List W} {a b : Option Int} : (cutW ws a b).length ≤ ws.length := by
  unfold cutW
  rw [List.length_take, List.length_drop]
  omega
theorem tm_cut {S : Sto} {ws : List W} {a b : Option Int} (h : ∀ w ∈ ws, TmW S w) : ∀ w ∈ cutW ws a b, TmW S w := fun w hw => h w (cutW_mem hw)
theorem tm_app {S : Sto} {xs ys : List W} (h : ∀ w ∈ xs, TmW S w) (k : ∀ w ∈ ys, TmW S w) : ∀ w ∈ xs ++ ys, TmW S w := fun w hw => (List.mem_append.mp hw).elim (h w) (k w)
def N_law_deep : List Str := ["thing", "k"]
def ir_law_deep : ISs := .cons (.set 0 (.cst (.int 7))) (.cons (.for (.nm 1) (.rng (.cst (.int 90))) (.cons (.set 0 (.tup (.cons (.var 0) .nil))) .nil)) (.cons (.ret (.var 0)) .nil))
def sp_law_deep : MSp := fun ws S Q _ => ws = [] ∧ ∀ w, (∀ T, TmW T w) → Q w S
theorem pf_law_deep__k01 (G : Gs) (ws : List W) (S : Sto) (Q : WQ) (X : XQ) (h : sp_law_deep ws S Q X) : ws.length = 0 ∧ wpF G 2 ir_law_deep ws S Q X := by
  obtain ⟨rfl, hq⟩ := h
  refine ⟨rfl, ?_⟩
  unfold wpF ir_law_deep
  walk_at "wp"
  refine ⟨⟨by decide, by decide⟩, ForG.map (List.range 90) (fun (k : Nat) => .int (0 + k)) rfl (fun _ _ σ S' => S' = S ∧ ∃ (w : W) (b : Option W), σ = [some w, b] ∧ ∀ T, TmW T w) S (Sub.refl _) ⟨rfl, _, _, rfl, fun T => .int _⟩ ?_ ?_⟩
  · rintro d k r σ S' he ⟨rfl, w, b, rfl, hw⟩
    walk_at "wp"
    exact ⟨by rw [sizeLine_val]; decide, _, _, rfl, fun T => .tup (by simp) fun v hv => by rw [List.mem_singleton.mp hv]; exact hw T⟩
  · rintro σ S' ⟨rfl, w, b, rfl, hw⟩
    walk_at "wp"
    exact ⟨_, Sub.refl _, hq _ hw⟩
def N_law_other : List Str := ["tap", "thing", "way", "odd", "at", "some"]
def ir_law_other : ISs := .cons (.set 2 (.call 5 (.cons (.var 0) (.cons (.cst (.int 12)) .nil)))) (.cons (.iff (.not (.isa (.var 1) "tuple")) (.cons (.set 3 (.idl (.t (.dsp (.cons (.cst (.bl true)) (.cons (.cst (.bl false)) (.cons (.cst (.str "1")) (.cons (.cst .non) (.cons (.tup (.cons (.var 1) .nil)) (.cons (.cst (.int 0)) .nil)))))))) (.call 5 (.cons (.var 0) (.cons (.cst (.int 6)) .nil))))) (.cons (.ret (.idl (.t (.dsp (.cons (.bin .add (.var 1) (.cst (.int 1))) (.cons (.bin .sub (.var 1) (.cst (.int 1))) (.cons (.bin .add (.var 1) (.cst (.int 2))) (.cons (.bin .sub (.var 1) (.cst (.int 2))) (.cons (.bin .add (.var 1) (.cst (.int 1))) (.cons (.bin .sub (.var 1) (.cst (.int 1))) (.cons (.bin .sub (.cst (.int 0)) (.var 1)) (.cons (.var 3) .nil)))))))))) (.bin .mod (.var 2) (.cst (.int 8))))) .nil)) (.nil)) (.cons (.set 4 (.call 5 (.cons (.var 0) (.cons (.bin .add (.len (.var 1)) (.cst (.int 1))) .nil)))) (.cons (.set 3 (.idl (.t (.dsp (.cons (.cst .non) (.cons (.dnew false) (.cons (.cst (.int 7)) (.cons (.cst (.bl true)) (.cons (.cst (.str "")) (.cons (.mat (.lst (.of (.var 1)))) (.cons (.call 13 (.nil)) .nil))))))))) (.call 5 (.cons (.var 0) (.cons (.cst (.int 7)) .nil))))) (.cons (.set 5 (.mat (.dsp (.cons (.bin .add (.slc (.var 1) (.none) (.some (.var 4))) (.slc (.var 1) (.some (.bin .add (.var 4) (.cst (.int 1)))) (.none))) (.cons (.bin .add (.bin .add (.slc (.var 1) (.none) (.some (.var 4))) (.slc (.var 1) (.some (.var 4)) (.some (.bin .add (.var 4) (.cst (.int 1)))))) (.slc (.var 1) (.some (.var 4)) (.none))) (.cons (.revT (.var 1)) (.cons (.tup (.nil)) (.cons (.var 3) .nil)))))))) (.cons (.set 5 (.mat (.cat (.of (.var 5)) (.t (.dsp (.cons (.bin .add (.bin .add (.slc (.var 1) (.none) (.some (.var 4))) (.slc (.var 1) (.none) (.some (.cst (.int 1))))) (.slc (.var 1) (.some (.bin .add (.var 4) (.cst (.int 1)))) (.none))) (.cons (.bin .add (.var 1) (.tup (.cons (.tup (.cons (.cst (.int 0)) (.cons (.cst (.int 1)) .nil))) .nil))) (.cons (.mat (.lst (.of (.var 1)))) .nil)))))))) (.cons (.ret (.idx (.var 5) (.bin .mod (.var 2) (.cst (.int 8))))) .nil))))))
def sp_law_other : MSp := fun ws S Q _ => ∃ (p : Addr) (w : W) (o : MO) (n d : Nat), ws = [.ref p, w] ∧ S p = some o ∧ Tap n o ∧ n ≤ 9000000 ∧ PtD d w ∧ d ≤ 4 ∧
  ∀ (w' : W) (S' : Sto) (o' : MO), Sub (put S p o') S' → TmW S' w' → Q w' S'
theorem pf_law_other__k01 (G : Gs) (hG5 : G 5 = sp_law_next) (hG13 : G 13 = sp_law_deep) (ws : List W) (S : Sto) (Q : WQ) (X : XQ) (h : sp_law_other ws S Q X) : ws.length = 2 ∧ wpF G 6 ir_law_other ws S Q X := by
  obtain ⟨p, w, o, n, d, rfl, hS, ht, hn, hP, hd, hq⟩ := h
  refine ⟨rfl, ?_⟩
  unfold wpF ir_law_other
  walk_at "wp"
  simp only [hG5, hG13]
  refine sp_law_next.use hS ht (by omega) (by decide) (by decide) fun way o1 h1 h1' t1 => ?_
  walk_at "wp"
  rcases hP.split with ⟨i, rfl⟩ | ⟨vs, rfl⟩
  · have i1 : isaW (.int i) "tuple" (put S p o1) = some false := rfl
    simp only [i1]
    walk_at "wp"
    refine ⟨by rw [sizeLine_val]; decide, by rw [sizeLine_val]; decide, sp_law_next.use put_same t1 (by omega) (by decide) (by decide) fun r2 o2 h2 h2' t2 => ?_⟩
    walk_at "wp"
    obtain ⟨w1, e1, m1⟩ := atI_in (xs := [W.bl true, W.bl false, W.str (Str.ofString "1"), W.non, W.tup [W.int i], W.int 0]) h2 (by simpa using h2')
    rw [e1]
    have k1 : TmW (put S p o2) w1 := by
      simp only [List.mem_cons, List.not_mem_nil, or_false] at m1
      rcases m1 with rfl | rfl | rfl | rfl | rfl | rfl
      · exact .bl _
      · exact .bl _
      · exact .str _
      · exact .non
      · exact .tup (by simp) fun v hv => by rw [List.mem_singleton.mp hv]; exact .int _
      · exact .int _
    dsimp only
    refine ⟨by rw [sizeLine_val]; decide, by decide, ?_⟩
    obtain ⟨w2, e2, m2⟩ := atI_in (xs := [W.int (i + 1), W.int (i - 1), W.int (i + 2), W.int (i - 2), W.int (i + 1), W.int (i - 1), W.int (0 - i), w1]) (i := way % 8) (Int.emod_nonneg _ (by decide)) (Int.emod_lt_of_pos _ (by decide))
    rw [e2]
    refine ⟨_, Sub.refl _, hq w2 _ o2 (Sub.refl _) ?_⟩
    simp only [List.mem_cons, List.not_mem_nil, or_false] at m2
    rcases m2 with rfl | rfl | rfl | rfl | rfl | rfl | rfl | rfl
    · exact .int _
    · exact .int _
    · exact .int _
    · exact .int _
    · exact .int _
    · exact .int _
    · exact .int _
    · exact k1
  · obtain ⟨d', rfl, hl, hv⟩ := hP.parts
    have hT : ∀ T, ∀ v ∈ vs, TmW T v := fun T v h => (hv v h).tm
    have lim : ∀ {a b c e : Option Int}, (cutW vs a b).length + (cutW vs c e).length ≤ sizeLine := fun {a b c e} => by
      have h1 := cutW_len (ws := vs) (a := a) (b := b)
      have h2 := cutW_len (ws := vs) (a := c) (b := e)
      rw [sizeLine_val]; omega
    have few : ∀ {a b : Option Int}, (cutW vs a b).length ≤ 100 := fun {a b} => by
      have h1 := cutW_len (ws := vs) (a := a) (b := b)
      omega
    walk_at "wp"
    refine sp_law_next.use put_same t1 (by omega) (by omega) (by omega) fun at_ o2 h2 h2' t2 => ?_
    walk_at "wp"
    intro q1 hq1 q2 hq2
    refine ⟨rfl, fun w1 hw1 => ?_⟩
    walk_at "wp"
    have hp1 : q1 ≠ p := fun z => by rw [z, put_same] at hq1; cases hq1
    have hp2 : q2 ≠ p := fun z => by rw [z, put_ne hp1.symm, put_same] at hq2; cases hq2
    have h12 : q2 ≠ q1 := fun z => by rw [z, put_same] at hq2; cases hq2
    have k0 : ∀ o, put (put (put S p o) q1 (.dk false [])) q2 (.lst vs) p = some o := fun o => by rw [put_ne hp2.symm, put_ne hp1.symm, put_same]
    refine ⟨by rw [sizeLine_val]; decide, sp_law_next.use (k0 _) t2 (by omega) (by decide) (by decide) fun r3 o3 h3 h3' t3 => ?_⟩
    obtain ⟨w2, e2, m2⟩ := atI_in (xs := [W.non, W.ref q1, W.int 7, W.bl true, W.str (Str.ofString ""), W.ref q2, w1]) h3 (by simpa using h3')
    obtain ⟨T, hTe⟩ : ∃ T, put (put (put (put S p o2) q1 (.dk false [])) q2 (.lst vs)) p o3 = T := ⟨_, rfl⟩
    have sT : Sub (put S p o3) T := hTe ▸ sub_reput ((Sub.put hq1).trans (Sub.put hq2))
    have k2 : TmW T w2 := by
      simp only [List.mem_cons, List.not_mem_nil, or_false] at m2
      rcases m2 with rfl | rfl | rfl | rfl | rfl | rfl | rfl
      · exact .non
      · exact .dk (kvs := []) (by rw [← hTe, put_ne hp1, put_ne h12.symm, put_same])
      · exact .int _
      · exact .bl _
      · exact .str _
      · exact .lst (ws := vs) (by rw [← hTe, put_ne hp2, put_same])
      · exact hw1 T
    have e0 : (if false = true then MO.dt false [] else MO.dk false []) = MO.dk false [] := rfl
    simp only [e0, hTe]
    walk_at "wp"
    simp only [e2]
    walk_at "wp"
    simp only [bin_addT, bin_addI]
    walk_at "wp"
    have l3 : ∀ {a b c e f g : Option Int}, (cutW vs a b ++ cutW vs c e).length + (cutW vs f g).length ≤ sizeLine := fun {a b c e f g} => by
      have h1 := few (a := a) (b := b)
      have h2 := few (a := c) (b := e)
      have h3 := few (a := f) (b := g)
      rw [List.length_append, sizeLine_val]; omega
    refine ⟨lim, lim, l3, Nat.zero_le _, by rw [sizeLine_val]; decide, fun a ha => ⟨lim, l3, by rw [sizeLine_val]; decide, by rw [sizeLine_val]; decide, by rw [sizeLine_val]; omega, fun b hb => ⟨by rw [sizeLine_val]; decide, fun z => (by cases z), fun z => (by cases z), ?_, by rw [sizeLine_val]; decide, fun c hc => ⟨by decide, ?_⟩⟩⟩⟩
    · have hab : a ≠ b := fun z => by rw [z, put_same] at hb; cases hb
      rw [put_ne hab, put_same]
    obtain ⟨w3, e3, m3⟩ := atI_in (xs := [W.tup (cutW vs none (some at_) ++ cutW vs (some (at_ + 1)) none), W.tup (cutW vs none (some at_) ++ cutW vs (some at_) (some (at_ + 1)) ++ cutW vs (some at_) none), W.tup vs.reverse, W.tup [], w2,
      W.tup (cutW vs none (some at_) ++ cutW vs none (some 1) ++ cutW vs (some (at_ + 1)) none), W.tup (vs ++ [W.tup [W.int 0, W.int 1]]), W.ref b]) (i := way % 8) (Int.emod_nonneg _ (by decide)) (Int.emod_lt_of_pos _ (by decide))
    rw [e3]
    have hcb : b ≠ c := fun z => by rw [z, put_same] at hc; cases hc
    have sU := (Sub.put (o := .lst [W.tup (cutW vs none (some at_) ++ cutW vs (some (at_ + 1)) none), W.tup (cutW vs none (some at_) ++ cutW vs (some at_) (some (at_ + 1)) ++ cutW vs (some at_) none), W.tup vs.reverse, W.tup [], w2]) ha).trans ((Sub.put (o := .lst vs) hb).trans (Sub.put (o := .lst [W.tup (cutW vs none (some at_) ++ cutW vs (some (at_ + 1)) none), W.tup (cutW vs none (some at_) ++ cutW vs (some at_) (some (at_ + 1)) ++ cutW vs (some at_) none), W.tup vs.reverse, W.tup [], w2,
      W.tup (cutW vs none (some at_) ++ cutW vs none (some 1) ++ cutW vs (some (at_ + 1)) none), W.tup (vs ++ [W.tup [W.int 0, W.int 1]]), W.ref b]) hc))
    refine ⟨_, Sub.refl _, hq w3 _ o3 (sT.trans sU) ?_⟩
    have l2 : ∀ {a b c e : Option Int}, (cutW vs a b ++ cutW vs c e).length < 1000000 := fun {a b c e} => by
      have h1 := few (a := a) (b := b)
      have h2 := few (a := c) (b := e)
      rw [List.length_append]; omega
    have l4 : ∀ {a b c e f g : Option Int}, (cutW vs a b ++ cutW vs c e ++ cutW vs f g).length < 1000000 := fun {a b c e f g} => by
      have h1 := few (a := a) (b := b)
      have h2 := few (a := c) (b := e)
      have h3 := few (a := f) (b := g)
      rw [List.length_append, List.length_append]; omega
    simp only [List.mem_cons, List.not_mem_nil, or_false] at m3
    rcases m3 with rfl | rfl | rfl | rfl | rfl | rfl | rfl | rfl
    · exact .tup l2 (tm_app (tm_cut (hT _)) (tm_cut (hT _)))
    · exact .tup l4 (tm_app (tm_app (tm_cut (hT _)) (tm_cut (hT _))) (tm_cut (hT _)))
    · exact .tup (by rw [List.length_reverse]; omega) fun v hv => hT _ v (List.mem_reverse.mp hv)
    · exact .tup (by simp) fun v hv => by cases hv
    · exact k2.sub sU
    · exact .tup l4 (tm_app (tm_app (tm_cut (hT _)) (tm_cut (hT _))) (tm_cut (hT _)))
    · refine .tup (by rw [List.length_append]; simp; omega) (tm_app (hT _) fun v hv => ?_)
      rw [List.mem_singleton.mp hv]
      refine .tup (by simp) fun u hu => ?_
      simp only [List.mem_cons, List.not_mem_nil, or_false] at hu
      rcases hu with rfl | rfl
      · exact .int _
      · exact .int _
    · exact .lst (ws := vs) (by rw [put_ne hcb, put_same])
def N_law_spoilt : List Str := ["tap", "thing", "left", "at"]
def ir_law_spoilt : ISs := .cons (.iff (.and (.cmp .gt (.var 2) (.cst (.int 0))) (.and (.isa (.var 1) "tuple") (.and (.cmp .ne (.var 1) (.tup (.nil))) (.cmp .gt (.call 5 (.cons (.var 0) (.cons (.cst (.int 6)) .nil))) (.cst (.int 0)))))) (.cons (.set 3 (.call 5 (.cons (.var 0) (.cons (.len (.var 1)) .nil)))) (.cons (.ret (.bin .add (.bin .add (.slc (.var 1) (.none) (.some (.var 3))) (.tup (.cons (.call 15 (.cons (.var 0) (.cons (.idx (.var 1) (.var 3)) (.cons (.bin .sub (.var 2) (.cst (.int 1))) .nil)))) .nil))) (.slc (.var 1) (.some (.bin .add (.var 3) (.cst (.int 1)))) (.none)))) .nil)) (.nil)) (.cons (.ret (.call 14 (.cons (.var 0) (.cons (.var 1) .nil)))) .nil)
def sp_law_spoilt (m : Nat) : MSp := fun ws S Q _ => ∃ (p : Addr) (w : W) (o : MO) (n d : Nat) (left : Int), ws = [.ref p, w, .int left] ∧ 0 ≤ left ∧ left < m ∧ S p = some o ∧ Tap n o ∧ (n : Int) + 5 * left ≤ 8000000 ∧ PtD d w ∧ d ≤ 4 ∧
  ∀ (w' : W) (S' : Sto) (o' : MO), Sub (put S p o') S' → TmW S' w' → Q w' S'
theorem z_law_spoilt (ws : List W) (T : Sto) (Q : WQ) (X : XQ) : ¬ sp_law_spoilt 0 ws T Q X := by
  rintro ⟨p, w, o, n, d, left, _, h1, h2, _⟩
  omega
theorem ne_nil {vs : List W} {d : Nat} {Q : Bool → Prop} (h : PtD d (.tup vs)) (hd : d ≤ 4) (hq : Q (!vs.isEmpty)) : cmpW .ne (.tup vs) (.tup []) Q := by
  refine ⟨h.sh.eqOk (by omega), (ShW.tup (d := 0) (ws := []) fun v hv => by cases hv).eqOk (by decide), ?_⟩
  cases vs with
  | nil => exact hq
  | cons v vs => exact hq
theorem pf_law_spoilt__k01 (G : Gs) (n : Nat) (hG5 : G 5 = sp_law_next) (hG15 : G 15 = sp_law_spoilt n) (hG14 : G 14 = sp_law_other) (ws : List W) (S : Sto) (Q : WQ) (X : XQ) (h : sp_law_spoilt (n + 1) ws S Q X) : ws.length = 3 ∧ wpF G 4 ir_law_spoilt ws S Q X := by
  obtain ⟨p, w, o, t, d, left, rfl, hl0, hl1, hS, ht, hn, hP, hd, hq⟩ := h
  refine ⟨rfl, ?_⟩
  have last : ∀ o1 t', Tap t' o1 → t' ≤ 9000000 → sp_law_other [.ref p, w] (put S p o1) (fun w S' => ∃ S2, Sub S2 S' ∧ Q w S2) (fun C S' => ∃ S2, Sub S2 S' ∧ X C S2) := fun o1 t' h1 h2 => ⟨p, w, o1, t', d, rfl, put_same, h1, h2, hP, hd, fun w' S' o' h3 h4 => ⟨S', Sub.refl _, hq w' S' o' (by rw [put_put] at h3; exact h3) h4⟩⟩
  unfold wpF ir_law_spoilt
  walk_at "wp"
  simp only [hG5, hG15, hG14]
  have last0 := last o t ht (by omega)
  rw [put_self hS] at last0
  walk_at "wp"
  by_cases hl : 0 < left
  · rw [if_pos hl]
    rcases hP.split with ⟨i, rfl⟩ | ⟨vs, rfl⟩
    · have i1 : isaW (.int i) "tuple" S = some false := rfl
      simp only [i1]
      walk_at "wp"
      exact last0
    · obtain ⟨d', rfl, hlv, hv⟩ := hP.parts
      walk_at "wp"
      refine ⟨Nat.zero_le _, ne_nil hP hd ?_⟩
      by_cases h0 : vs = []
      · rw [if_neg (by simp [h0])]
        exact last0
      have hpos : 0 < vs.length := List.length_pos_iff.mpr h0
      rw [if_pos (by simpa using h0)]
      refine sp_law_next.use hS ht (by omega) (by decide) (by decide) fun r1 o1 h1 h1' t1 => ?_
      walk_at "wp"
      by_cases hr : 0 < r1
      · rw [if_pos hr]
        refine sp_law_next.use put_same t1 (by omega) (by omega) (by omega) fun r2 o2 h2 h2' t2 => ?_
        walk_at "wp"
        obtain ⟨v, ev, mv⟩ := atI_in (xs := vs) h2 h2'
        simp only [ev]
        refine ⟨p, v, o2, t + 1 + 1, d', left - 1, rfl, by omega, by omega, put_same, t2, by omega, hv v mv, by omega, fun w' S' o' h3 h4 => ?_⟩
        rw [put_put] at h3
        have few : ∀ {a b : Option Int}, (cutW vs a b).length ≤ 100 := fun {a b} => by
          have h1 := cutW_len (ws := vs) (a := a) (b := b)
          omega
        have hT : ∀ v ∈ vs, TmW S' v := fun v h => (hv v h).tm
        walk_at "wp"
        simp only [bin_addT, bin_addI]
        have f1 := few (a := none) (b := some r2)
        have f2 := few (a := some (r2 + 1)) (b := none)
        refine ⟨by rw [sizeLine_val]; decide, by rw [sizeLine_val]; simp; omega, by rw [sizeLine_val]; simp; omega, ⟨_, Sub.refl _, hq _ S' o' h3 (.tup (by simp; omega) (tm_app (tm_app (tm_cut hT) fun u hu => ?_) (tm_cut hT)))⟩⟩
        rw [List.mem_singleton.mp hu]
        exact h4
      · rw [if_neg hr]
        exact last o1 (t + 1) t1 (by omega)
  · rw [if_neg hl]
    exact last0
def N_law_any : List Str := ["tap", "x", "y", "way", "many", "step", "k"]
def ir_law_any : ISs := .cons (.set 3 (.call 5 (.cons (.var 0) (.cons (.cst (.int 6)) .nil)))) (.cons (.set 4 (.bin .add (.cst (.int 12)) (.call 5 (.cons (.var 0) (.cons (.cst (.int 21)) .nil))))) (.cons (.set 5 (.bin .add (.cst (.int 2)) (.call 5 (.cons (.var 0) (.cons (.cst (.int 2)) .nil))))) (.cons (.iff (.cmp .eq (.var 3) (.cst (.int 3))) (.cons (.ret (.tup (.cons (.tup (.cons (.var 2) (.cons (.bin .add (.bin .add (.var 2) (.cst (.int 1))) (.call 5 (.cons (.var 0) (.cons (.cst (.int 3)) .nil)))) (.cons (.tupl (.t (.comp (.tup (.cons (.bin .add (.var 1) (.bin .mul (.var 5) (.var 6))) (.cons (.bin .add (.bin .add (.var 1) (.bin .mul (.var 5) (.var 6))) (.cst (.int 1))) .nil))) (.nm 6) (.rng (.var 4)) [6]))) .nil)))) .nil))) .nil) (.nil)) (.cons (.iff (.cmp .eq (.var 3) (.cst (.int 4))) (.cons (.ret (.tupl (.t (.comp (.tup (.cons (.bin .add (.var 2) (.bin .mul (.var 5) (.var 6))) (.cons (.bin .add (.bin .add (.var 2) (.bin .mul (.var 5) (.var 6))) (.cst (.int 1))) (.cons (.tup (.cons (.tup (.cons (.var 1) (.cons (.bin .add (.bin .add (.var 1) (.cst (.int 2))) (.bin .mod (.var 6) (.cst (.int 2)))) .nil))) .nil)) .nil)))) (.nm 6) (.rng (.var 4)) [6])))) .nil) (.nil)) (.cons (.ret (.call 8 (.cons (.var 0) (.cons (.var 1) (.cons (.var 2) (.cons (.cst (.int 5)) .nil)))))) .nil)))))
theorem pf_law_any__k01 (G : Gs) (hG5 : G 5 = sp_law_next) (hG8 : G 8 = sp_law_region) (ws : List W) (S : Sto) (Q : WQ) (X : XQ) (h : sp_law_any ws S Q X) : ws.length = 3 ∧ wpF G 7 ir_law_any ws S Q X := by
  obtain ⟨p, x, y, o, n, rfl, hx0, hx1, hy0, hy1, hS, ht, hn, hq⟩ := h
  refine ⟨rfl, ?_⟩
  unfold wpF ir_law_any
  walk_at "wp"
  simp only [hG5, hG8]
  refine sp_law_next.use hS ht (by omega) (by decide) (by decide) fun way o1 h1 h1' t1 => ?_
  walk_at "wp"
  refine sp_law_next.use put_same t1 (by omega) (by decide) (by decide) fun r2 o2 h2 h2' t2 => ?_
  walk_at "wp"
  refine sp_law_next.use put_same t2 (by omega) (by decide) (by decide) fun r3 o3 h3 h3' t3 => ?_
  walk_at "wp"
  obtain ⟨step, hst⟩ : ∃ step, 2 + r3 = step := ⟨_, rfl⟩
  rw [hst]
  have hstep : step = 2 ∨ step = 3 := by omega
  have hmul : ∀ k : Nat, k < 40 → mulOk step (0 + (k : Int)) := fun k hk => by
    unfold mulOk
    have a1 : step.natAbs.log2 < 10 := log2_lt_of (by omega) (by decide)
    have a2 : (0 + (k : Int)).natAbs.log2 < 10 := log2_lt_of (by omega) (by decide)
    omega
  have hrl : ((12 + r2).toNat) ≤ 32 := by omega
  have hrl0 : 12 ≤ ((12 + r2).toNat) := by omega
  by_cases hw3 : way = 3
  · rw [if_pos hw3]
    walk_at "wp"
    refine sp_law_next.use put_same t3 (by omega) (by decide) (by decide) fun r4 o4 h4 h4' t4 => ?_
    walk_at "wp"
    refine ⟨⟨by omega, by omega⟩, CompG.map (List.range (12 + r2).toNat) (fun (k : Nat) => .int (0 + k)) (fun k => stW (x + step * (0 + (k : Int)), x + step * (0 + (k : Int)) + 1)) rfl (by simp; omega) trivial (fun k hk Q' hq' => ?_) ?_⟩
    · have hk : k < 40 := by have := List.mem_range.mp hk; omega
      walk_at "wp"
      exact ⟨hmul k hk, hmul k hk, by rw [sizeLine_val]; decide, hq'⟩
    · refine ⟨by rw [sizeLine_val]; decide, by rw [sizeLine_val]; decide, _, Sub.refl _, ?_⟩
      have h := hq [(y, y + 1 + r4, (List.range (12 + r2).toNat).map fun (k : Nat) => (x + step * (0 + (k : Int)), x + step * (0 + (k : Int)) + 1))] o4 ⟨by simp, fun b hb => ?_, Chn.one⟩ (fun b hb => ?_) (t4.mono (by omega))
      · unfold rgW bdW spsW at h
        simp only [List.map_cons, List.map_nil, List.map_map] at h
        exact h
      · rw [List.mem_singleton] at hb
        subst hb
        refine ⟨by show y < y + 1 + r4; omega, ⟨?_, by simp; omega, ?_, Chn.range fun i => ?_⟩⟩
        · intro z
          have := congrArg List.length z
          simp at this
          omega
        · intro q hq
          obtain ⟨k, _, rfl⟩ := List.mem_map.mp hq
          show x + step * (0 + (k : Int)) < x + step * (0 + (k : Int)) + 1
          omega
        · show x + step * (0 + (i : Int)) + 1 < x + step * (0 + ((i + 1 : Nat) : Int))
          rw [step_mul step hstep]
          omega
      · rw [List.mem_singleton] at hb
        subst hb
        refine ⟨by show _ < y; omega, by show y + 1 + r4 < _; omega, fun q hq => ?_⟩
        obtain ⟨k, hk, rfl⟩ := List.mem_map.mp hq
        have hk := List.mem_range.mp hk
        have hs := step_le step hstep k
        exact ⟨by show _ < x + step * (0 + (k : Int)); omega, by show x + step * (0 + (k : Int)) + 1 < _; omega⟩
  rw [if_neg hw3]
  by_cases hw4 : way = 4
  · rw [if_pos hw4]
    walk_at "wp"
    refine ⟨⟨by omega, by omega⟩, CompG.map (List.range (12 + r2).toNat) (fun (k : Nat) => .int (0 + k)) (fun k => bdW (y + step * (0 + (k : Int)), y + step * (0 + (k : Int)) + 1, [(x, x + 2 + (0 + (k : Int)) % 2)])) rfl (by simp; omega) trivial (fun k hk Q' hq' => ?_) ?_⟩
    · have hk : k < 40 := by have := List.mem_range.mp hk; omega
      walk_at "wp"
      refine ⟨hmul k hk, hmul k hk, by decide, by rw [sizeLine_val]; decide, by rw [sizeLine_val]; decide, by rw [sizeLine_val]; decide, hq'⟩
    · refine ⟨_, Sub.refl _, ?_⟩
      have h := hq ((List.range (12 + r2).toNat).map fun (k : Nat) => (y + step * (0 + (k : Int)), y + step * (0 + (k : Int)) + 1, [(x, x + 2 + (0 + (k : Int)) % 2)])) o3 ⟨by simp; omega, fun b hb => ?_, Chn.range fun i => ?_⟩ (fun b hb => ?_) (t3.mono (by omega))
      · unfold rgW at h
        rw [List.map_map] at h
        exact h
      · obtain ⟨k, _, rfl⟩ := List.mem_map.mp hb
        refine ⟨by show y + step * (0 + (k : Int)) < y + step * (0 + (k : Int)) + 1; omega, SpOk.one ?_⟩
        show x < x + 2 + (0 + (k : Int)) % 2
        omega
      · left
        show y + step * (0 + (i : Int)) + 1 < y + step * (0 + ((i + 1 : Nat) : Int))
        rw [step_mul step hstep]
        omega
      · obtain ⟨k, hk, rfl⟩ := List.mem_map.mp hb
        have hk := List.mem_range.mp hk
        have hs := step_le step hstep k
        refine ⟨by show _ < y + step * (0 + (k : Int)); omega, by show y + step * (0 + (k : Int)) + 1 < _; omega, fun q hq => ?_⟩
        rw [List.mem_singleton] at hq
        subst hq
        exact ⟨by show _ < x; omega, by show x + 2 + (0 + (k : Int)) % 2 < _; omega⟩
  · rw [if_neg hw4]
    walk_at "wp"
    refine sp_law_region.use (by decide) (by decide) (by omega) (by omega) (by omega) (by omega) put_same t3 (by omega) fun r o4 hr hrb _ t4 => ?_
    walk_at "wp"
    exact ⟨_, Sub.refl _, hq r o4 hr hrb (t4.mono (by omega))⟩
def N_law_right : List Str := ["tap", "choice", "thing", "found"]
def ir_law_right : ISs := .cons (.set 1 (.call 5 (.cons (.var 0) (.cons (.cst (.int 8)) .nil)))) (.cons (.set 2 (.call 8 (.cons (.var 0) (.cons (.call 6 (.cons (.var 0) .nil)) (.cons (.call 6 (.cons (.var 0) .nil)) (.cons (.cst (.int 5)) .nil)))))) (.cons (.iff (.cmp .eq (.call 5 (.cons (.var 0) (.cons (.cst (.int 4)) .nil))) (.cst (.int 0))) (.cons (.set 2 (.call 9 (.cons (.var 0) (.cons (.call 6 (.cons (.var 0) .nil)) (.cons (.call 6 (.cons (.var 0) .nil)) .nil))))) .nil) (.nil)) (.cons (.iff (.cmp .gt (.var 1) (.cst (.int 1))) (.cons (.set 2 (.call 15 (.cons (.var 0) (.cons (.var 2) (.cons (.cst (.int 5)) .nil))))) .nil) (.nil)) (.cons (.set 3 (.call 3 (.cons (.var 2) .nil))) (.cons (.ret (.and (.isa (.var 3) "bool") (.cmp .eq (.var 3) (.call 12 (.cons (.var 2) .nil))))) .nil)))))
theorem pf_law_right__k01 (G : Gs) (hG3 : G 3 = sp_is_region1) (hG5 : G 5 = sp_law_next) (hG6 : G 6 = sp_law_place) (hG8 : G 8 = sp_law_region) (hG9 : G 9 = sp_law_any) (hG12 : G 12 = sp_law_is_region1) (hG15 : G 15 = sp_law_spoilt 12) (ws : List W) (S : Sto) (Q : WQ) (X : XQ) (h : sp_right ws S Q X) : ws.length = 1 ∧ wpF G 4 ir_law_right ws S Q X := by
  obtain ⟨p, o, rfl, hS, ht, hq⟩ := h
  refine ⟨rfl, ?_⟩
  unfold wpF ir_law_right
  walk_at "wp"
  simp only [hG5, hG6, hG8, hG9]
  refine sp_law_next.use hS ht (by omega) (by decide) (by decide) fun way o1 h1 h1' t1 => ?_
  walk_at "wp"
  refine sp_law_place.use put_same t1 (by omega) fun x o2 hx hx' t2 => ?_
  walk_at "wp"
  refine sp_law_place.use put_same t2 (by omega) fun y o3 hy hy' t3 => ?_
  walk_at "wp"
  refine sp_law_region.use (by decide) (by decide) (by omega) (by omega) (by omega) (by omega) put_same t3 (by omega) fun r o4 hr _ _ t4 => ?_
  walk_at "wp"
  refine sp_law_next.use put_same t4 (by omega) (by decide) (by decide) fun r5 o5 h5 h5' t5 => ?_
  walk_at "wp"
  have fin : ∀ (w : W) (S' : Sto) (o' : MO), Sub (put S p o') S' → TmW S' w → G.fn 3 [w] S'
            (fun w_2 S1 =>
              match isaW w_2 "bool" S1 with
              | some c =>
                if c = true then
                  G.fn 12 [w] S1 (fun y S2 => cmpW COp.eq w_2 y fun z => ∃ S2_1, Sub S2_1 S2 ∧ Q (W.bl z) S2_1)
                    fun C S' => ∃ S2, Sub S2 S' ∧ X C S2
                else ∃ S2, Sub S2 S1 ∧ Q (W.bl false) S2
              | none => False)
            fun C S' => ∃ S2, Sub S2 S' ∧ X C S2 := fun w S' o' hs hw => by
    rw [hG3]
    refine sp_is_region1.use hw fun b hb => ?_
    walk_at "wp"
    rw [hG12]
    refine sp_law_is_region1.use hw fun c hc => ?_
    have e : b = c := by
      cases b <;> cases c <;> first | rfl | skip
      · exact absurd (hb.mpr (hc.mp rfl)) (by simp)
      · exact absurd (hc.mpr (hb.mp rfl)) (by simp)
    subst e
    refine ⟨ShW.bl.eqOk (d := 0) (by decide), ShW.bl.eqOk (d := 0) (by decide), _, hs, ?_⟩
    have e : W.eqv (.bl b) (.bl b) = true := by cases b <;> rfl
    rw [e]
    exact hq o'
  have go : ∀ (r : Rg) (n' : Nat) (o' : MO), RgOk r → Tap n' o' → n' ≤ 100000 → if 1 < way then
          G.fn 15 [W.ref p, rgW r, W.int 5] (put S p o')
            (fun w S1 =>
              G.fn 3 [w] S1
                (fun w_1 S1 =>
                  match isaW w_1 "bool" S1 with
                  | some c =>
                    if c = true then
                      G.fn 12 [w] S1 (fun y S2 => cmpW COp.eq w_1 y fun z => ∃ S2_1, Sub S2_1 S2 ∧ Q (W.bl z) S2_1)
                        fun C S' => ∃ S2, Sub S2 S' ∧ X C S2
                    else ∃ S2, Sub S2 S1 ∧ Q (W.bl false) S2
                  | none => False)
                fun C S' => ∃ S2, Sub S2 S' ∧ X C S2)
            fun C S' => ∃ S2, Sub S2 S' ∧ X C S2
        else
          G.fn 3 [rgW r] (put S p o')
            (fun w S1 =>
              match isaW w "bool" S1 with
              | some c =>
                if c = true then
                  G.fn 12 [rgW r] S1 (fun y S2 => cmpW COp.eq w y fun z => ∃ S2_1, Sub S2_1 S2 ∧ Q (W.bl z) S2_1)
                    fun C S' => ∃ S2, Sub S2 S' ∧ X C S2
                else ∃ S2, Sub S2 S1 ∧ Q (W.bl false) S2
              | none => False)
            fun C S' => ∃ S2, Sub S2 S' ∧ X C S2 := fun r n' o' hr ht' hn' => by
    by_cases hw : 1 < way
    · rw [if_pos hw, hG15]
      refine ⟨p, rgW r, o', n', 4, 5, rfl, by decide, by decide, put_same, ht', by omega, PtD.rg hr, by decide, fun w' S' o2 h3 h4 => ?_⟩
      rw [put_put] at h3
      exact fin w' S' o2 h3 h4
    · rw [if_neg hw]
      exact fin _ _ o' (Sub.refl _) (PtD.rg hr).tm
  by_cases hr5 : r5 = 0
  · rw [if_pos hr5]
    refine sp_law_place.use put_same t5 (by omega) fun x2 o6 hx2 hx2' t6 => ?_
    walk_at "wp"
    refine sp_law_place.use put_same t6 (by omega) fun y2 o7 hy2 hy2' t7 => ?_
    walk_at "wp"
    refine sp_law_any.use (by omega) (by omega) (by omega) (by omega) put_same t7 (by omega) fun r2 o8 hr2 _ t8 => ?_
    walk_at "wp"
    exact go r2 _ o8 hr2 t8 (by omega)
  · rw [if_neg hr5]
    exact go r _ o5 hr t5 (by omega)
end M3
namespace M3L
open PySem PySem.Spec PyProof.Rows L2 M3
def G (cl : Nat → Addr) : Gs := ⟨fun i => bif i == 0 then sp_is_whole1 else bif i == 1 then sp_is_stretch1 else bif i == 2 then sp_are_spans1 else bif i == 3 then sp_is_region1 else bif i == 4 then sp_law_tap else bif i == 5 then sp_law_next else bif i == 6 then sp_law_place else bif i == 7 then sp_law_spans else bif i == 8 then sp_law_region else bif i == 9 then sp_law_any else bif i == 10 then sp_law_whole1 else bif i == 11 then sp_law_are_spans1 else bif i == 12 then sp_law_is_region1 else bif i == 13 then sp_law_deep else bif i == 14 then sp_law_other else bif i == 15 then sp_law_spoilt 12 else bif i == 16 then sp_right else fun _ _ _ _ => False, cl, LK.ex, none⟩
def c0 : M3.Ctx := LK.ctx
theorem sc1 : FnScope N_is_whole ["thing"] (defScope s1) := ⟨rfl, rfl, rfl, by decide +kernel, rfl, by decide +kernel, by decide +kernel⟩
theorem chk1 : chkSs { c0 with N := N_is_whole } ir_is_whole (defScope s1) (defBody s1) = true := by decide +kernel
def c1 : M3.Ctx := { c0 with fns := (0, "is_whole") :: c0.fns }
theorem sc2 : FnScope N_is_stretch ["thing"] (defScope s2) := ⟨rfl, rfl, rfl, by decide +kernel, rfl, by decide +kernel, by decide +kernel⟩
theorem chk2 : chkSs { c1 with N := N_is_stretch } ir_is_stretch (defScope s2) (defBody s2) = true := by decide +kernel
def c2 : M3.Ctx := { c1 with fns := (1, "is_stretch") :: c1.fns }
theorem sc3 : FnScope N_are_spans ["thing"] (defScope s3) := ⟨rfl, rfl, rfl, by decide +kernel, rfl, by decide +kernel, by decide +kernel⟩
theorem chk3 : chkSs { c2 with N := N_are_spans } ir_are_spans (defScope s3) (defBody s3) = true := by decide +kernel
def c3 : M3.Ctx := { c2 with fns := (2, "are_spans") :: c2.fns }
theorem sc4 : FnScope N_is_region ["thing"] (defScope s4) := ⟨rfl, rfl, rfl, by decide +kernel, rfl, by decide +kernel, by decide +kernel⟩
theorem chk4 : chkSs { c3 with N := N_is_region } ir_is_region (defScope s4) (defBody s4) = true := by decide +kernel
def c4 : M3.Ctx := { c3 with fns := (3, "is_region") :: c3.fns }
theorem sc6 : FnScope N_law_tap ["cell"] (defScope s6) := ⟨rfl, rfl, rfl, by decide +kernel, rfl, by decide +kernel, by decide +kernel⟩
theorem chk6 : chkSs { c4 with N := N_law_tap } ir_law_tap (defScope s6) (defBody s6) = true := by decide +kernel
def c5 : M3.Ctx := { c4 with fns := (4, "_law_tap") :: c4.fns }
theorem sc7 : FnScope N_law_next ["tap", "many"] (defScope s7) := ⟨rfl, rfl, rfl, by decide +kernel, rfl, by decide +kernel, by decide +kernel⟩
theorem chk7 : chkSs { c5 with N := N_law_next } ir_law_next (defScope s7) (defBody s7) = true := by decide +kernel
def c6 : M3.Ctx := { c5 with fns := (5, "_law_next") :: c5.fns }
theorem sc8 : FnScope N_law_place ["tap"] (defScope s8) := ⟨rfl, rfl, rfl, by decide +kernel, rfl, by decide +kernel, by decide +kernel⟩
theorem chk8 : chkSs { c6 with N := N_law_place } ir_law_place (defScope s8) (defBody s8) = true := by decide +kernel
def c7 : M3.Ctx := { c6 with fns := (6, "_law_place") :: c6.fns }
theorem sc9 : FnScope N_law_spans ["tap", "x"] (defScope s9) := ⟨rfl, rfl, rfl, by decide +kernel, rfl, by decide +kernel, by decide +kernel⟩
theorem chk9 : chkSs { c7 with N := N_law_spans } ir_law_spans (defScope s9) (defBody s9) = true := by decide +kernel
def c8 : M3.Ctx := { c7 with fns := (7, "_law_spans") :: c7.fns }
theorem sc10 : FnScope N_law_region ["tap", "x", "y", "most"] (defScope s10) := ⟨rfl, rfl, rfl, by decide +kernel, rfl, by decide +kernel, by decide +kernel⟩
theorem chk10 : chkSs { c8 with N := N_law_region } ir_law_region (defScope s10) (defBody s10) = true := by decide +kernel
def c9 : M3.Ctx := { c8 with fns := (8, "_law_region") :: c8.fns }
theorem sc11 : FnScope N_law_any ["tap", "x", "y"] (defScope s11) := ⟨rfl, rfl, rfl, by decide +kernel, rfl, by decide +kernel, by decide +kernel⟩
theorem chk11 : chkSs { c9 with N := N_law_any } ir_law_any (defScope s11) (defBody s11) = true := by decide +kernel
def c10 : M3.Ctx := { c9 with fns := (9, "_law_any") :: c9.fns }
theorem sc12 : FnScope N_law_whole ["thing"] (defScope s12) := ⟨rfl, rfl, rfl, by decide +kernel, rfl, by decide +kernel, by decide +kernel⟩
theorem chk12 : chkSs { c10 with N := N_law_whole } ir_law_whole (defScope s12) (defBody s12) = true := by decide +kernel
def c11 : M3.Ctx := { c10 with fns := (10, "_law_whole") :: c10.fns }
theorem sc13 : FnScope N_law_are_spans ["thing"] (defScope s13) := ⟨rfl, rfl, rfl, by decide +kernel, rfl, by decide +kernel, by decide +kernel⟩
theorem chk13 : chkSs { c11 with N := N_law_are_spans } ir_law_are_spans (defScope s13) (defBody s13) = true := by decide +kernel
def c12 : M3.Ctx := { c11 with fns := (11, "_law_are_spans") :: c11.fns }
theorem sc14 : FnScope N_law_is_region ["thing"] (defScope s14) := ⟨rfl, rfl, rfl, by decide +kernel, rfl, by decide +kernel, by decide +kernel⟩
theorem chk14 : chkSs { c12 with N := N_law_is_region } ir_law_is_region (defScope s14) (defBody s14) = true := by decide +kernel
def c13 : M3.Ctx := { c12 with fns := (12, "_law_is_region") :: c12.fns }
theorem sc15 : FnScope N_law_deep [] (defScope s15) := ⟨rfl, rfl, rfl, by decide +kernel, rfl, by decide +kernel, by decide +kernel⟩
theorem chk15 : chkSs { c13 with N := N_law_deep } ir_law_deep (defScope s15) (defBody s15) = true := by decide +kernel
def c14 : M3.Ctx := { c13 with fns := (13, "_law_deep") :: c13.fns }
theorem sc16 : FnScope N_law_other ["tap", "thing"] (defScope s16) := ⟨rfl, rfl, rfl, by decide +kernel, rfl, by decide +kernel, by decide +kernel⟩
theorem chk16 : chkSs { c14 with N := N_law_other } ir_law_other (defScope s16) (defBody s16) = true := by decide +kernel
def c15 : M3.Ctx := { c14 with fns := (14, "_law_other") :: c14.fns }
theorem sc17 : FnScope N_law_spoilt ["tap", "thing", "left"] (defScope s17) := ⟨rfl, rfl, rfl, by decide +kernel, rfl, by decide +kernel, by decide +kernel⟩
theorem chk17 : chkSs { c15 with N := N_law_spoilt, fns := (15, "_law_spoilt") :: c15.fns } ir_law_spoilt (defScope s17) (defBody s17) = true := by decide +kernel
def c16 : M3.Ctx := { c15 with fns := (15, "_law_spoilt") :: c15.fns }
theorem sc18 : FnScope N_law_right ["tap"] (defScope s18) := ⟨rfl, rfl, rfl, by decide +kernel, rfl, by decide +kernel, by decide +kernel⟩
theorem chk18 : chkSs { c16 with N := N_law_right } ir_law_right (defScope s18) (defBody s18) = true := by decide +kernel
def c17 : M3.Ctx := { c16 with fns := (16, "_law_right") :: c16.fns }
theorem sc19 : FnScope N_law ["script"] (defScope s19) := ⟨rfl, rfl, rfl, by decide +kernel, rfl, by decide +kernel, by decide +kernel⟩
theorem chk19 : chkSs { c17 with N := N_law } ir_law (defScope s19) (defBody s19) = true := by decide +kernel
theorem facts {P : Program} {w : World} {K : PySem.W.Frag} {h : Heap} {mg : Str → Option Value} {f : Addr} (KX : K.In h) (GX : h.Ns mainGlobals mg) (hfa : mg ("law" : Str) = some (.ref f)) (cx : SaysX LK fa fn K) :
    ∃ fd : FuncData, (∀ (s : Shared) (v : Value), BindsTo s fd ⟨[v], []⟩ [("script", v)]) ∧ ∀ base : Heap, K.In base → base.Ns mainGlobals mg → FnOk P w K mg base (L2.CX P w) 30 f fd ["script"] (liftSp K sp_law) := by
  have c := cx.d
  have b_len : mg "len" = none := He.free_ok KX GX (c.fact 18 (f := .free "len") rfl)
  have b_max : mg "max" = none := He.free_ok KX GX (c.fact 19 (f := .free "max") rfl)
  have b_min : mg "min" = none := He.free_ok KX GX (c.fact 20 (f := .free "min") rfl)
  have b_range : mg "range" = none := He.free_ok KX GX (c.fact 21 (f := .free "range") rfl)
  have b_zip : mg "zip" = none := He.free_ok KX GX (c.fact 22 (f := .free "zip") rfl)
  have b_enumerate : mg "enumerate" = none := He.free_ok KX GX (c.fact 23 (f := .free "enumerate") rfl)
  have b_tuple : mg "tuple" = none := He.free_ok KX GX (c.fact 24 (f := .free "tuple") rfl)
  have b_list : mg "list" = none := He.free_ok KX GX (c.fact 25 (f := .free "list") rfl)
  have b_sum : mg "sum" = none := He.free_ok KX GX (c.fact 26 (f := .free "sum") rfl)
  have b_any : mg "any" = none := He.free_ok KX GX (c.fact 27 (f := .free "any") rfl)
  have b_all : mg "all" = none := He.free_ok KX GX (c.fact 28 (f := .free "all") rfl)
  have b_sorted : mg "sorted" = none := He.free_ok KX GX (c.fact 29 (f := .free "sorted") rfl)
  have b_set : mg "set" = none := He.free_ok KX GX (c.fact 30 (f := .free "set") rfl)
  have b_isinstance : mg "isinstance" = none := He.free_ok KX GX (c.fact 31 (f := .free "isinstance") rfl)
  have b_int : mg "int" = none := He.free_ok KX GX (c.fact 32 (f := .free "int") rfl)
  have b_bool : mg "bool" = none := He.free_ok KX GX (c.fact 33 (f := .free "bool") rfl)
  have b_str : mg "str" = none := He.free_ok KX GX (c.fact 34 (f := .free "str") rfl)
  have b_abs : mg "abs" = none := He.free_ok KX GX (c.fact 35 (f := .free "abs") rfl)
  have b_dict : mg "dict" = none := He.free_ok KX GX (c.fact 36 (f := .free "dict") rfl)
  have b_ValueError : mg "ValueError" = none := He.free_ok KX GX (c.fact 37 (f := .free "ValueError") rfl)
  have blt : ∀ x ∈ bltNames, mg x = none := by
    intro x hx
    simp only [bltNames, List.mem_cons, List.not_mem_nil, or_false] at hx
    rcases hx with rfl | rfl | rfl | rfl | rfl | rfl | rfl | rfl | rfl | rfl | rfl | rfl | rfl | rfl | rfl | rfl | rfl | rfl | rfl | rfl
    · exact b_len
    · exact b_max
    · exact b_min
    · exact b_range
    · exact b_zip
    · exact b_enumerate
    · exact b_tuple
    · exact b_list
    · exact b_sum
    · exact b_any
    · exact b_all
    · exact b_sorted
    · exact b_set
    · exact b_isinstance
    · exact b_int
    · exact b_bool
    · exact b_str
    · exact b_abs
    · exact b_dict
    · exact b_ValueError
  obtain ⟨fd1, F1⟩ := c.def_ 0 (d := d1) rfl
  have g1 := He.glo_ok KX GX (c.fact 0 (f := .glo "is_whole") rfl)
  have bd1 : Binds K fd1 ["thing"] [] := F1.bindsN fun _ _ _ _ _ _ us hl => match us, hl with | [_], _ => rfl
  obtain ⟨fd2, F2⟩ := c.def_ 1 (d := d2) rfl
  have g2 := He.glo_ok KX GX (c.fact 1 (f := .glo "is_stretch") rfl)
  have bd2 : Binds K fd2 ["thing"] [] := F2.bindsN fun _ _ _ _ _ _ us hl => match us, hl with | [_], _ => rfl
  obtain ⟨fd3, F3⟩ := c.def_ 2 (d := d3) rfl
  have g3 := He.glo_ok KX GX (c.fact 2 (f := .glo "are_spans") rfl)
  have bd3 : Binds K fd3 ["thing"] [] := F3.bindsN fun _ _ _ _ _ _ us hl => match us, hl with | [_], _ => rfl
  obtain ⟨fd4, F4⟩ := c.def_ 3 (d := d4) rfl
  have g4 := He.glo_ok KX GX (c.fact 3 (f := .glo "is_region") rfl)
  have bd4 : Binds K fd4 ["thing"] [] := F4.bindsN fun _ _ _ _ _ _ us hl => match us, hl with | [_], _ => rfl
  obtain ⟨fd6, F6⟩ := c.def_ 4 (d := d6) rfl
  have g6 := He.glo_ok KX GX (c.fact 4 (f := .glo "_law_tap") rfl)
  have bd6 : Binds K fd6 ["cell"] [] := F6.bindsN fun _ _ _ _ _ _ us hl => match us, hl with | [_], _ => rfl
  obtain ⟨fd7, F7⟩ := c.def_ 5 (d := d7) rfl
  have g7 := He.glo_ok KX GX (c.fact 5 (f := .glo "_law_next") rfl)
  have bd7 : Binds K fd7 ["tap", "many"] [] := F7.bindsN fun _ _ _ _ _ _ us hl => match us, hl with | [_, _], _ => rfl
  obtain ⟨fd8, F8⟩ := c.def_ 6 (d := d8) rfl
  have g8 := He.glo_ok KX GX (c.fact 6 (f := .glo "_law_place") rfl)
  have bd8 : Binds K fd8 ["tap"] [] := F8.bindsN fun _ _ _ _ _ _ us hl => match us, hl with | [_], _ => rfl
  obtain ⟨fd9, F9⟩ := c.def_ 7 (d := d9) rfl
  have g9 := He.glo_ok KX GX (c.fact 7 (f := .glo "_law_spans") rfl)
  have bd9 : Binds K fd9 ["tap", "x"] [] := F9.bindsN fun _ _ _ _ _ _ us hl => match us, hl with | [_, _], _ => rfl
  obtain ⟨fd10, F10⟩ := c.def_ 8 (d := d10) rfl
  have g10 := He.glo_ok KX GX (c.fact 8 (f := .glo "_law_region") rfl)
  have bd10 : Binds K fd10 ["tap", "x", "y", "most"] [] := F10.bindsN fun _ _ _ _ _ _ us hl => match us, hl with | [_, _, _, _], _ => rfl
  obtain ⟨fd11, F11⟩ := c.def_ 9 (d := d11) rfl
  have g11 := He.glo_ok KX GX (c.fact 9 (f := .glo "_law_any") rfl)
  have bd11 : Binds K fd11 ["tap", "x", "y"] [] := F11.bindsN fun _ _ _ _ _ _ us hl => match us, hl with | [_, _, _], _ => rfl
  obtain ⟨fd12, F12⟩ := c.def_ 10 (d := d12) rfl
  have g12 := He.glo_ok KX GX (c.fact 10 (f := .glo "_law_whole") rfl)
  have bd12 : Binds K fd12 ["thing"] [] := F12.bindsN fun _ _ _ _ _ _ us hl => match us, hl with | [_], _ => rfl
  obtain ⟨fd13, F13⟩ := c.def_ 11 (d := d13) rfl
  have g13 := He.glo_ok KX GX (c.fact 11 (f := .glo "_law_are_spans") rfl)
  have bd13 : Binds K fd13 ["thing"] [] := F13.bindsN fun _ _ _ _ _ _ us hl => match us, hl with | [_], _ => rfl
  obtain ⟨fd14, F14⟩ := c.def_ 12 (d := d14) rfl
  have g14 := He.glo_ok KX GX (c.fact 12 (f := .glo "_law_is_region") rfl)
  have bd14 : Binds K fd14 ["thing"] [] := F14.bindsN fun _ _ _ _ _ _ us hl => match us, hl with | [_], _ => rfl
  obtain ⟨fd15, F15⟩ := c.def_ 13 (d := d15) rfl
  have g15 := He.glo_ok KX GX (c.fact 13 (f := .glo "_law_deep") rfl)
  have bd15 : Binds K fd15 [] [] := F15.bindsN fun _ _ _ _ _ _ us hl => match us, hl with | [], _ => rfl
  obtain ⟨fd16, F16⟩ := c.def_ 14 (d := d16) rfl
  have g16 := He.glo_ok KX GX (c.fact 14 (f := .glo "_law_other") rfl)
  have bd16 : Binds K fd16 ["tap", "thing"] [] := F16.bindsN fun _ _ _ _ _ _ us hl => match us, hl with | [_, _], _ => rfl
  obtain ⟨fd17, F17⟩ := c.def_ 15 (d := d17) rfl
  have g17 := He.glo_ok KX GX (c.fact 15 (f := .glo "_law_spoilt") rfl)
  have bd17 : Binds K fd17 ["tap", "thing", "left"] [] := F17.bindsN fun _ _ _ _ _ _ us hl => match us, hl with | [_, _, _], _ => rfl
  obtain ⟨fd18, F18⟩ := c.def_ 16 (d := d18) rfl
  have g18 := He.glo_ok KX GX (c.fact 16 (f := .glo "_law_right") rfl)
  have bd18 : Binds K fd18 ["tap"] [] := F18.bindsN fun _ _ _ _ _ _ us hl => match us, hl with | [_], _ => rfl
  obtain ⟨fd, FL⟩ := c.def_ 17 (d := d19) rfl
  have e := hfa.symm.trans (He.glo_ok KX GX (c.fact 17 (f := .glo "law") rfl))
  cases e
  have bL := FunD.bindsA (ps := ["script"]) FL fun _ _ _ _ _ _ us hl => match us, hl with | [_], _ => rfl
  refine ⟨fd, fun s v => bL s [v] rfl, fun base _ _ => ?_⟩
  have n0 : Knows P w K mg base (G (clK K)) c0 0 := Knows.start KX GX cx.l rfl rfl rfl
  have n1 : Knows P w K mg base (G (clK K)) c1 1 := Knows.fn n0 (fn_sound (C := c0) F1 sc1 ir_is_whole chk1 n0 blt sp_is_whole1 fun ws T Q X hw => pf_is_whole__k01 (G (clK K))  ws T Q X hw) rfl g1 F1.kp bd1
  have n2 : Knows P w K mg base (G (clK K)) c2 2 := Knows.fn n1 (fn_sound (C := c1) F2 sc2 ir_is_stretch chk2 n1 blt sp_is_stretch1 fun ws T Q X hw => pf_is_stretch__k01 (G (clK K)) rfl ws T Q X hw) rfl g2 F2.kp bd2
  have n3 : Knows P w K mg base (G (clK K)) c3 3 := Knows.fn n2 (fn_sound (C := c2) F3 sc3 ir_are_spans chk3 n2 blt sp_are_spans1 fun ws T Q X hw => pf_are_spans__k01 (G (clK K)) rfl ws T Q X hw) rfl g3 F3.kp bd3
  have n4 : Knows P w K mg base (G (clK K)) c4 4 := Knows.fn n3 (fn_sound (C := c3) F4 sc4 ir_is_region chk4 n3 blt sp_is_region1 fun ws T Q X hw => pf_is_region__k01 (G (clK K)) rfl rfl ws T Q X hw) rfl g4 F4.kp bd4
  have n5 : Knows P w K mg base (G (clK K)) c5 5 := Knows.fn n4 (fn_sound (C := c4) F6 sc6 ir_law_tap chk6 n4 blt sp_law_tap fun ws T Q X hw => pf_law_tap (G (clK K))  ws T Q X hw) rfl g6 F6.kp bd6
  have n6 : Knows P w K mg base (G (clK K)) c6 6 := Knows.fn n5 (fn_sound (C := c5) F7 sc7 ir_law_next chk7 n5 blt sp_law_next fun ws T Q X hw => pf_law_next (G (clK K))  ws T Q X hw) rfl g7 F7.kp bd7
  have n7 : Knows P w K mg base (G (clK K)) c7 7 := Knows.fn n6 (fn_sound (C := c6) F8 sc8 ir_law_place chk8 n6 blt sp_law_place fun ws T Q X hw => pf_law_place (G (clK K)) rfl ws T Q X hw) rfl g8 F8.kp bd8
  have n8 : Knows P w K mg base (G (clK K)) c8 8 := Knows.fn n7 (fn_sound (C := c7) F9 sc9 ir_law_spans chk9 n7 blt sp_law_spans fun ws T Q X hw => pf_law_spans (G (clK K)) rfl ws T Q X hw) rfl g9 F9.kp bd9
  have n9 : Knows P w K mg base (G (clK K)) c9 9 := Knows.fn n8 (fn_sound (C := c8) F10 sc10 ir_law_region chk10 n8 blt sp_law_region fun ws T Q X hw => pf_law_region (G (clK K)) rfl rfl ws T Q X hw) rfl g10 F10.kp bd10
  have n10 : Knows P w K mg base (G (clK K)) c10 10 := Knows.fn n9 (fn_sound (C := c9) F11 sc11 ir_law_any chk11 n9 blt sp_law_any fun ws T Q X hw => pf_law_any__k01 (G (clK K)) rfl rfl ws T Q X hw) rfl g11 F11.kp bd11
  have n11 : Knows P w K mg base (G (clK K)) c11 11 := Knows.fn n10 (fn_sound (C := c10) F12 sc12 ir_law_whole chk12 n10 blt sp_law_whole1 fun ws T Q X hw => pf_law_whole__k01 (G (clK K))  ws T Q X hw) rfl g12 F12.kp bd12
  have n12 : Knows P w K mg base (G (clK K)) c12 12 := Knows.fn n11 (fn_sound (C := c11) F13 sc13 ir_law_are_spans chk13 n11 blt sp_law_are_spans1 fun ws T Q X hw => pf_law_are_spans__k01 (G (clK K)) rfl ws T Q X hw) rfl g13 F13.kp bd13
  have n13 : Knows P w K mg base (G (clK K)) c13 13 := Knows.fn n12 (fn_sound (C := c12) F14 sc14 ir_law_is_region chk14 n12 blt sp_law_is_region1 fun ws T Q X hw => pf_law_is_region__k01 (G (clK K)) rfl rfl ws T Q X hw) rfl g14 F14.kp bd14
  have n14 : Knows P w K mg base (G (clK K)) c14 14 := Knows.fn n13 (fn_sound (C := c13) F15 sc15 ir_law_deep chk15 n13 blt sp_law_deep fun ws T Q X hw => pf_law_deep__k01 (G (clK K))  ws T Q X hw) rfl g15 F15.kp bd15
  have n15 : Knows P w K mg base (G (clK K)) c15 15 := Knows.fn n14 (fn_sound (C := c14) F16 sc16 ir_law_other chk16 n14 blt sp_law_other fun ws T Q X hw => pf_law_other__k01 (G (clK K)) rfl rfl ws T Q X hw) rfl g16 F16.kp bd16
  have n16 : Knows P w K mg base (G (clK K)) c16 28 := Knows.fn (n15.more 12) (rec_sound (i := 15) (C := c15) F17 sc17 ir_law_spoilt chk17 n15 (by decide) blt g17 F17.kp bd17 sp_law_spoilt z_law_spoilt (fun n ws T Q X hw => pf_law_spoilt__k01 ((G (clK K)).set 15 (sp_law_spoilt n)) n rfl rfl rfl ws T Q X hw) 12) rfl g17 F17.kp bd17
  have n17 : Knows P w K mg base (G (clK K)) c17 29 := Knows.fn n16 (fn_sound (C := c16) F18 sc18 ir_law_right chk18 n16 blt sp_right fun ws T Q X hw => pf_law_right__k01 (G (clK K)) rfl rfl rfl rfl rfl rfl rfl ws T Q X hw) rfl g18 F18.kp bd18
  exact fn_sound (C := c17) FL sc19 ir_law chk19 n17 blt sp_law fun ws T Q X hw => pf_law (G (clK K)) rfl rfl ws T Q X hw
end M3L
open PySem PySem.W PySem.Calls PyProof.Rows
theorem PySem.Challenge.cw_panelook_k01_which_are_regions_holds : PySem.Challenge.rw_panelook_k01_which_are_regions.Holds := by
  w_on
  o_law
  refine HandSHeadRun.head_any (r := OpenLaw.row PySem.Challenge.rw_panelook_k01_which_are_regions) (q := view (OpenLaw.row PySem.Challenge.rw_panelook_k01_which_are_regions).prog [19]) (H := M3L.hk) (ob := M3L.ob) (M := 3000) (loose := M3L.loose) (d := HandSHeadRun.topDef (OpenLaw.row PySem.Challenge.rw_panelook_k01_which_are_regions).prog 19) (kwd := []) M3L.obE
    (by kernel_rfl) (fun s => by kernel_rfl) M3L.run (by kernel_rfl) (by kernel_rfl) (by kernel_rfl) (by rfl) (by first | assumption | decide +kernel) (by decide +kernel) ⟨rfl, rfl, rfl, rfl, rfl, by decide +kernel⟩ ?hw ?hc
  case hw => w_witness2
  case hc =>
    refine M3.walk_law (l := PySem.Challenge.rw_panelook_k01_which_are_regions) (k := 30) (x := "script") (m := M3.sp_law) rfl (by kernel_rfl) ⟨rfl, by decide, by decide⟩ M3.lawSp_law ?F
    intro w mg fa h Y GX hmg0
    obtain ⟨K, KX, c⟩ := Y
    have hmg : mg ("law" : PySem.Str) = some (.ref fa) := by
      have e : (HandSHeadRun.topDef (OpenLaw.row PySem.Challenge.rw_panelook_k01_which_are_regions).prog 19).name = ("law" : PySem.Str) := by kernel_rfl
      rw [← e]
      exact hmg0
    obtain ⟨fd, hb, hF⟩ := M3L.facts (P := (PySem.Challenge.rw_panelook_k01_which_are_regions).prog) (w := w) KX GX hmg c
    exact ⟨K, fd, KX, hb, hF⟩
