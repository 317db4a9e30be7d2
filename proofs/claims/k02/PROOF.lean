import PyProof.Rows.All
import Wide.All
import OpenK.AllK
import Wide.FinOn
import HandS.ForMost
import HandS.Exc
import HandS.TryOnly
import HandS.ExcOwn
import HandS.ExcCtx
import HandS.WordsExc
import HandS.Deep
import HandS.IsInst
import HandS.Lambda
import HandS.Walk
import KE.GoesMore
import KE.GoesEnum
import KE.GoesZip
import KE.DataCmp
import HandS.TupAny
import HandS.TupLe
import HandS.TupMul
import HandS.Style
import HandS.WideBits
import HandS.Text
import PyProof.Rows.ListMulArg
import PyProof.StrOps2
import KE.DataIsa
import KE.DataMinMax
import KE.DataFind
import KE.SortData
import HandS.Strs
import HandS.Hot
import HandS.HotCalls
import HandS.ExcIs
import KE.KRevSl
import HandS.EndOwn
import KE.KNestM
import PySem.Challenge.RW_roomhours_k02_whole_seatings
set_option Elab.async false
set_option linter.all false
set_option maxRecDepth 100000
set_option maxHeartbeats 1000000
/-! The data layer, part 1: what a value holds (PyData), slots, owned objects, steps. -/
namespace RH
open PySem PySem.Spec L2

/-! ### heaps that grow -/
abbrev Grw (H H' : Hp) : Prop := ∀ a o, H a = some o → H' a = some o
theorem Grw.refl (H : Hp) : Grw H H := fun _ _ h => h
theorem Grw.trans {H H1 H2 : Hp} (a : Grw H H1) (b : Grw H1 H2) : Grw H H2 := fun x o h => b x o (a x o h)
theorem Grw.new {H : Hp} {p : Addr} {o : HO} (h : H p = none) : Grw H (upd H p o) := fun a u e => by
  rw [upd_ne (ne_of_none e h)]
  exact e
theorem Grw.both {F H : Hp} (g : Grw F H) (p : Addr) (o : HO) : Grw (upd F p o) (upd H p o) := fun a u e => by
  by_cases h : a = p
  · subst h
    rw [upd_same] at e ⊢
    exact e
  · rw [upd_ne h] at e ⊢
    exact g a u e
theorem Grw.none {F H : Hp} (g : Grw F H) {p : Addr} (h : H p = none) : F p = none := by
  cases e : F p with
  | none => rfl
  | some o =>
    rw [g p o e] at h
    cases h
theorem rd_ext {H H' : Hp} {a : Addr} {u : HO} (e : Grw H H') (h : Rd H a u) : Rd H' a u := by
  rcases h with h | ⟨o, h⟩
  · exact Or.inl (e a _ h)
  · exact Or.inr ⟨o, e a _ h⟩
theorem sql_ext {K : PySem.W.Frag} {H H' : Hp} {a : Addr} {xs : List V} (e : Grw H H') (h : SqL K H a xs) : SqL K H' a xs := h.imp (rd_ext e) id
theorem sqt_ext {K : PySem.W.Frag} {H H' : Hp} {a : Addr} {xs : List V} (e : Grw H H') (h : SqT K H a xs) : SqT K H' a xs := h.imp (rd_ext e) id
mutual
theorem dp_ext {K : PySem.W.Frag} {H H' : Hp} (e : Grw H H') : ∀ {v : V} {d : PyData}, Dp K H v d → Dp K H' v d
  | _, _, .non => .non
  | _, _, .bl b => .bl b
  | _, _, .int i => .int i
  | _, _, .str x => .str x
  | _, _, .lst h t => .lst (sql_ext e h) (dps_ext e t)
  | _, _, .tup h t => .tup (sqt_ext e h) (dps_ext e t)
theorem dps_ext {K : PySem.W.Frag} {H H' : Hp} (e : Grw H H') : ∀ {vs : List V} {ds : List PyData}, DpAll K H vs ds → DpAll K H' vs ds
  | _, _, .nil => .nil
  | _, _, .cons h t => .cons (dp_ext e h) (dps_ext e t)
end
section
variable {K : PySem.W.Frag} {H : Hp}
theorem dps_len : ∀ {vs : List V} {ds : List PyData}, DpAll K H vs ds → vs.length = ds.length
  | _, _, .nil => rfl
  | _, _, .cons _ t => congrArg (· + 1) (dps_len t)
theorem dps_at : ∀ {vs : List V} {ds : List PyData} {i : Nat} {d : PyData}, DpAll K H vs ds → ds[i]? = some d → ∃ v, vs[i]? = some v ∧ Dp K H v d
  | _, _, _, _, .nil, e => by simp at e
  | _, _, 0, _, .cons h _, e => by simp at e; subst e; exact ⟨_, rfl, h⟩
  | _, _, i + 1, d, .cons _ t, e => by
    obtain ⟨v, h1, h2⟩ := dps_at (i := i) (d := d) t (by simpa using e)
    exact ⟨v, by simpa using h1, h2⟩
theorem dps_at' : ∀ {vs : List V} {ds : List PyData} {i : Nat} {v : V}, DpAll K H vs ds → vs[i]? = some v → ∃ d, ds[i]? = some d ∧ Dp K H v d
  | _, _, _, _, .nil, e => by simp at e
  | _, _, 0, _, .cons h _, e => by simp at e; subst e; exact ⟨_, rfl, h⟩
  | _, _, i + 1, v, .cons _ t, e => by
    obtain ⟨d, h1, h2⟩ := dps_at' (i := i) (v := v) t (by simpa using e)
    exact ⟨d, by simpa using h1, h2⟩
theorem dps_app : ∀ {vs ws : List V} {ds es : List PyData}, DpAll K H vs ds → DpAll K H ws es → DpAll K H (vs ++ ws) (ds ++ es)
  | _, _, _, _, .nil, s => s
  | _, _, _, _, .cons r t, s => .cons r (dps_app t s)
theorem dps_take : ∀ {vs : List V} {ds : List PyData} (n : Nat), DpAll K H vs ds → DpAll K H (vs.take n) (ds.take n)
  | _, _, 0, _ => .nil
  | _, _, _ + 1, .nil => .nil
  | _, _, n + 1, .cons r t => .cons r (dps_take n t)
theorem dps_drop : ∀ {vs : List V} {ds : List PyData} (n : Nat), DpAll K H vs ds → DpAll K H (vs.drop n) (ds.drop n)
  | _, _, 0, r => r
  | _, _, _ + 1, .nil => .nil
  | _, _, n + 1, .cons _ t => dps_drop n t
theorem dps_set : ∀ {vs : List V} {ds : List PyData} (i : Nat) {v : V} {d : PyData}, DpAll K H vs ds → Dp K H v d → DpAll K H (vs.set i v) (ds.set i d)
  | _, _, _, _, _, .nil, _ => .nil
  | _, _, 0, _, _, .cons _ t, h => .cons h t
  | _, _, i + 1, _, _, .cons r t, h => .cons r (dps_set i t h)
theorem dps_rev {vs : List V} {ds : List PyData} (h : DpAll K H vs ds) : DpAll K H vs.reverse ds.reverse := by
  induction vs generalizing ds with
  | nil => cases h; exact .nil
  | cons v vs ih =>
    cases h with
    | cons r t =>
      rw [List.reverse_cons, List.reverse_cons]
      exact dps_app (ih t) (.cons r .nil)
theorem dps_dropLast : ∀ {vs : List V} {ds : List PyData}, DpAll K H vs ds → DpAll K H vs.dropLast ds.dropLast
  | _, _, .nil => .nil
  | _, _, .cons _ .nil => .nil
  | _, _, .cons r (.cons r2 t) => .cons r (dps_dropLast (.cons r2 t))
theorem dps_ints : ∀ (ns : List Int), DpAll K H (ns.map V.int) (ns.map PyData.int)
  | [] => .nil
  | n :: r => .cons (.int n) (dps_ints r)
theorem ints_dps : ∀ {vs : List V} {ns : List Int}, DpAll K H vs (ns.map PyData.int) → vs = ns.map V.int
  | _, [], h => by cases h; rfl
  | _, n :: r, h => by
    cases h with
    | cons h t =>
      cases h
      rw [List.map_cons, ints_dps t]
theorem bools_dps : ∀ {vs : List V} {bs : List Bool}, DpAll K H vs (bs.map PyData.bool) → vs = bs.map V.bl
  | _, [], h => by cases h; rfl
  | _, n :: r, h => by
    cases h with
    | cons h t =>
      cases h
      rw [List.map_cons, bools_dps t]
theorem strs_dps : ∀ {vs : List V} {bs : List Str}, DpAll K H vs (bs.map PyData.str) → vs = bs.map V.str
  | _, [], h => by cases h; rfl
  | _, n :: r, h => by
    cases h with
    | cons h t =>
      cases h
      rw [List.map_cons, strs_dps t]
end

/-! ### owned objects, slots -/
/-- an owned list or dict, by what it holds -/
inductive OwnB where
  | lst (xs : List PyData)
  | dct (kvs : List (PyData × PyData))
/-- a field of an owned instance -/
inductive Fld where
  | val (d : PyData)
  | own (o : OwnB)
inductive Own where
  | b (o : OwnB)
  | ins (c : Nat) (fs : List (Str × Fld))
/-- what a slot holds: nothing that is known; a value for good; an object that none else holds -/
inductive Slot where
  | no
  | val (d : PyData)
  | own (o : Own)
  | pin

/-- the parameters of the layer: the tables of code objects; the classes of errors by their numbers; what a dict of data is -/
structure Lay where
  T : List (Addr × Str)
  exa : Addr
  ex : Nat → Addr
  cl : Nat → Addr
  dct : PySem.W.Frag → Hp → Addr → HO → List (PyData × PyData) → Prop
  dctExt : ∀ {K : PySem.W.Frag} {F F' : Hp} {p : Addr} {ho : HO} {kvs : List (PyData × PyData)}, Grw F F' → dct K F p ho kvs → dct K F' p ho kvs
  dctMut : ∀ {K : PySem.W.Frag} {F : Hp} {p : Addr} {ho : HO} {kvs : List (PyData × PyData)}, dct K F p ho kvs → ∀ ps, ho ≠ .tbl ps

section
variable (Y : Lay) (K : PySem.W.Frag)
def ObIs (F : Hp) (p : Addr) (ho : HO) : OwnB → Prop
  | .lst xs => ∃ vs, ho = .lst vs ∧ DpAll K F vs xs
  | .dct kvs => Y.dct K F p ho kvs
def OwnBOk (F H : Hp) (p : Addr) (o : OwnB) : Prop := ∃ ho, H p = some ho ∧ ObIs Y K F p ho o
inductive FldOk (F H : Hp) : V → Fld → List Addr → Prop
  | val {v : V} {d : PyData} : Dp K F v d → FldOk F H v (.val d) []
  | own {p : Addr} {o : OwnB} : OwnBOk Y K F H p o → FldOk F H (.ref p) (.own o) [p]
inductive FldsOk (F H : Hp) : List (Str × V) → List (Str × Fld) → List Addr → Prop
  | nil : FldsOk F H [] [] []
  | cons {n : Str} {v : V} {f : Fld} {w : List Addr} {vs : List (Str × V)} {fs : List (Str × Fld)} {ws : List Addr} : FldOk Y K F H v f w → FldsOk F H vs fs ws → FldsOk F H ((n, v) :: vs) ((n, f) :: fs) (w ++ ws)
inductive OwnOk (F H : Hp) : Addr → Own → List Addr → Prop
  | b {p : Addr} {o : OwnB} : OwnBOk Y K F H p o → OwnOk F H p (.b o) [p]
  | ins {p dx : Addr} {c : Nat} {vs : List (Str × V)} {fs : List (Str × Fld)} {ws : List Addr} : H p = some (.ins (Y.cl c) dx vs) → FldsOk Y K F H vs fs ws → (p :: ws).Nodup → OwnOk F H p (.ins c fs) (p :: ws)
inductive SlotOk (F H : Hp) : Option V → Slot → List Addr → Prop
  | no {x : Option V} : SlotOk F H x .no []
  | val {v : V} {d : PyData} : Dp K F v d → SlotOk F H (some v) (.val d) []
  | own {p : Addr} {o : Own} {w : List Addr} : OwnOk Y K F H p o w → SlotOk F H (some (.ref p)) (.own o) w
  | pin : SlotOk F H (some (.ref Y.exa)) .pin []
end
def Slot.isOwn : Slot → Bool
  | .own _ => true
  | _ => false
/-- the addresses of the owned objects -/
abbrev Wn := Nat → List Addr
def Wn.has (w : Wn) (p : Addr) : Prop := ∃ i, p ∈ w i

/-- what may be for good: no table; a tuple as an object without a dict alone -/
def okO : HO → Prop
  | .tbl _ => False
  | .tup _ => False
  | .frz o (.tup _) => o.dict = none
  | _ => True
/-- slots σ as δ tells, the objects for good in F, the owned ones at w; vs0: the arguments -/
structure SOk (Y : Lay) (K : PySem.W.Frag) (vs0 : List V) (F H : Hp) (σ : St) (δ : List Slot) (w : Wn) : Prop where
  len : δ.length = σ.length
  sub : Grw F H
  tab : LamX.Tabs Y.T H
  ntb : ∀ b o, F b = some o → okO o
  at_ : ∀ i s, δ[i]? = some s → SlotOk Y K F H (σ[i]?.join) s (w i)
  emp : ∀ i, δ[i]? = none → w i = []
  nof : ∀ i p, p ∈ w i → F p = none
  dis : ∀ i j p, p ∈ w i → p ∈ w j → i = j
  par : ∀ (i : Nat) (v : V) (o : Own), vs0[i]? = some v → δ[i]? = some (Slot.own o) → σ[i]? = some (some v)

/-- a step: from (F, H) to (F', H'), W may be changed, W' are the owned ones behind -/
structure Step (W : Addr → Prop) (F H F' H' : Hp) (W' : Addr → Prop) : Prop where
  ff : Grw F F'
  keep : ∀ b o, ¬ W b → H b = some o → (∀ ps, o ≠ .tbl ps) → H' b = some o
  live : ∀ b, H b ≠ none → H' b ≠ none
  prot : ∀ b, H b ≠ none → F b = none → ¬ W b → F' b = none
  ownd : ∀ b, W' b → W b ∨ H b = none
theorem Step.refl {W W' : Addr → Prop} {F H : Hp} (h : ∀ b, W' b → W b) : Step W F H F H W' := ⟨Grw.refl F, fun _ _ _ h _ => h, fun _ h => h, fun _ _ h _ => h, fun b z => .inl (h b z)⟩
theorem Step.trans {W W1 W2 : Addr → Prop} {F H F1 H1 F2 H2 : Hp} (a : Step W F H F1 H1 W1) (b : Step W1 F1 H1 F2 H2 W2) : Step W F H F2 H2 W2 := by
  have n1 : ∀ c, H c ≠ none → ¬ W c → ¬ W1 c := fun c h1 h2 h3 => (a.ownd c h3).elim h2 h1
  refine ⟨a.ff.trans b.ff, fun c o h1 h2 h3 => ?_, fun c h => b.live c (a.live c h), fun c h1 h2 h3 => ?_, fun c h => ?_⟩
  · exact b.keep c o (n1 c (by rw [h2]; simp) h1) (a.keep c o h1 h2 h3) h3
  · exact b.prot c (a.live c h1) (a.prot c h1 h2 h3) (n1 c h1 h3)
  · rcases b.ownd c h with z | z
    · exact a.ownd c z
    · refine .inr ?_
      cases q : H c with
      | none => rfl
      | some o => exact absurd z (a.live c (by rw [q]; simp))
/-- more may be changed -/
theorem Step.mono {W V W' V' : Addr → Prop} {F H F' H' : Hp} (a : Step W F H F' H' W') (h : ∀ b, W b → V b) (h' : ∀ b, V' b → W' b ∨ V b) : Step V F H F' H' V' :=
  ⟨a.ff, fun b o n => a.keep b o fun z => n (h b z), a.live, fun b h1 h2 h3 => a.prot b h1 h2 fun z => h3 (h b z), fun b z => (h' b z).elim (fun q => (a.ownd b q).imp (h b) id) .inl⟩

/-- new objects alone -/
structure Alc (F H F' H' : Hp) : Prop where
  ff : Grw F F'
  hh : Grw H H'
  sub : Grw F' H'
  ntb : (∀ b o, F b = some o → okO o) → ∀ b o, F' b = some o → okO o
  prot : ∀ b, H b ≠ none → F b = none → F' b = none
  tbl : ∀ b ps, H' b = some (.tbl ps) → H b = some (.tbl ps)
theorem Alc.refl {F H : Hp} (g : Grw F H) : Alc F H F H := ⟨Grw.refl F, Grw.refl H, g, fun h => h, fun _ _ h => h, fun _ _ h => h⟩
theorem Alc.trans {F H F1 H1 F2 H2 : Hp} (a : Alc F H F1 H1) (b : Alc F1 H1 F2 H2) : Alc F H F2 H2 :=
  ⟨a.ff.trans b.ff, a.hh.trans b.hh, b.sub, fun h => b.ntb (a.ntb h), fun c h1 h2 => b.prot c (by
    cases q : H c with
    | none => exact absurd q h1
    | some o => rw [a.hh c o q]; simp) (a.prot c h1 h2), fun c ps h => a.tbl c ps (b.tbl c ps h)⟩
theorem tbl_upd {H : Hp} {p : Addr} {o : HO} (ho : ∀ ps, o ≠ .tbl ps) : ∀ b ps, upd H p o b = some (.tbl ps) → H b = some (.tbl ps) := fun b ps e => by
  by_cases q : b = p
  · subst q
    rw [upd_same] at e
    exact absurd (Option.some.inj e) (ho ps)
  · rw [upd_ne q] at e
    exact e
theorem Alc.new {F H : Hp} {p : Addr} {o : HO} (g : Grw F H) (h : H p = none) (ht : okO o) : Alc F H (upd F p o) (upd H p o) where
  ff := Grw.new (g.none h)
  hh := Grw.new h
  sub := g.both p o
  ntb := fun k b u e => by
    by_cases q : b = p
    · subst q
      rw [upd_same] at e
      rw [← Option.some.inj e]
      exact ht
    · rw [upd_ne q] at e
      exact k b u e
  prot := fun b h1 h2 => by
    rw [upd_ne (fun q => h1 (by rw [q]; exact h))]
    exact h2
  tbl := tbl_upd fun ps z => by subst z; exact ht
/-- new objects that are not told -/
theorem Alc.grw {F H H' : Hp} (g : Grw F H) (h : Grw H H') (t : ∀ b ps, H' b = some (.tbl ps) → H b = some (.tbl ps)) : Alc F H F H' := ⟨Grw.refl F, h, g.trans h, fun h => h, fun _ _ h => h, t⟩
theorem Alc.grwL {F H : Hp} {p : Addr} {xs : List V} (g : Grw F H) (h : H p = none) : Alc F H F (upd H p (.lst xs)) := Alc.grw g (Grw.new h) (tbl_upd fun ps z => by cases z)
theorem Alc.step {F H F' H' : Hp} (a : Alc F H F' H') (W W' : Addr → Prop) (h : ∀ b, W' b → W b) : Step W F H F' H' W' where
  ff := a.ff
  keep := fun b o _ h _ => a.hh b o h
  live := fun b h => by
    cases q : H b with
    | none => exact absurd q h
    | some o => rw [a.hh b o q]; simp
  prot := fun b h1 h2 _ => a.prot b h1 h2
  ownd := fun b z => .inl (h b z)

section
variable {Y : Lay} {K : PySem.W.Frag}
theorem obis_ext {F F' : Hp} {p : Addr} {ho : HO} {o : OwnB} (e : Grw F F') (h : ObIs Y K F p ho o) : ObIs Y K F' p ho o := by
  cases o with
  | lst xs =>
    obtain ⟨vs, e1, e2⟩ := h
    exact ⟨vs, e1, dps_ext e e2⟩
  | dct kvs => exact Y.dctExt e h
theorem obis_ntb {F : Hp} {p : Addr} {ho : HO} {o : OwnB} (h : ObIs Y K F p ho o) : ∀ ps, ho ≠ .tbl ps := by
  cases o with
  | lst xs =>
    obtain ⟨vs, e1, _⟩ := h
    intro ps z
    rw [e1] at z
    cases z
  | dct kvs => exact Y.dctMut h
theorem ownb_ext {F F' H H' : Hp} {p : Addr} {o : OwnB} (e : Grw F F') (k : ∀ ho, H p = some ho → (∀ ps, ho ≠ .tbl ps) → H' p = some ho) (h : OwnBOk Y K F H p o) : OwnBOk Y K F' H' p o := by
  obtain ⟨ho, h1, h2⟩ := h
  exact ⟨ho, k ho h1 (obis_ntb h2), obis_ext e h2⟩
theorem fld_ext {F F' H H' : Hp} {v : V} {f : Fld} {w : List Addr} (e : Grw F F') (k : ∀ p ∈ w, ∀ ho, H p = some ho → (∀ ps, ho ≠ .tbl ps) → H' p = some ho) (h : FldOk Y K F H v f w) : FldOk Y K F' H' v f w := by
  cases h with
  | val h => exact .val (dp_ext e h)
  | own h => exact .own (ownb_ext e (k _ (by simp)) h)
theorem flds_ext {F F' H H' : Hp} (e : Grw F F') : ∀ {vs : List (Str × V)} {fs : List (Str × Fld)} {w : List Addr}, (∀ p ∈ w, ∀ ho, H p = some ho → (∀ ps, ho ≠ .tbl ps) → H' p = some ho) → FldsOk Y K F H vs fs w → FldsOk Y K F' H' vs fs w
  | _, _, _, _, .nil => .nil
  | _, _, _, k, .cons h t => .cons (fld_ext e (fun p hp => k p (List.mem_append_left _ hp)) h) (flds_ext e (fun p hp => k p (List.mem_append_right _ hp)) t)
theorem own_ext {F F' H H' : Hp} {p : Addr} {o : Own} {w : List Addr} (e : Grw F F') (k : ∀ p ∈ w, ∀ ho, H p = some ho → (∀ ps, ho ≠ .tbl ps) → H' p = some ho) (h : OwnOk Y K F H p o w) : OwnOk Y K F' H' p o w := by
  cases h with
  | b h => exact .b (ownb_ext e (k _ (by simp)) h)
  | ins h1 h2 h3 => exact .ins (k _ (by simp) _ h1 (fun ps z => by cases z)) (flds_ext e (fun p hp => k p (List.mem_cons_of_mem _ hp)) h2) h3
theorem slot_ext {F F' H H' : Hp} {x : Option V} {s : Slot} {w : List Addr} (e : Grw F F') (k : ∀ p ∈ w, ∀ ho, H p = some ho → (∀ ps, ho ≠ .tbl ps) → H' p = some ho) (h : SlotOk Y K F H x s w) : SlotOk Y K F' H' x s w := by
  cases h with
  | no => exact .no
  | val h => exact .val (dp_ext e h)
  | own h => exact .own (own_ext e k h)
  | pin => exact .pin
theorem own_mem {F H : Hp} {p : Addr} {o : Own} {w : List Addr} (h : OwnOk Y K F H p o w) : p ∈ w := by
  cases h <;> simp
theorem flds_there {F H : Hp} : ∀ {vs : List (Str × V)} {fs : List (Str × Fld)} {w : List Addr}, FldsOk Y K F H vs fs w → ∀ q ∈ w, H q ≠ none
  | _, _, _, .nil, q, hq => by simp at hq
  | _, _, _, .cons h t, q, hq => by
    rcases List.mem_append.mp hq with hq | hq
    · cases h with
      | val h => simp at hq
      | own h =>
        obtain ⟨ho, h1, _⟩ := h
        rw [List.mem_singleton.mp hq, h1]
        simp
    · exact flds_there t q hq
theorem own_there {F H : Hp} {p : Addr} {o : Own} {w : List Addr} (h : OwnOk Y K F H p o w) : ∀ q ∈ w, H q ≠ none := by
  cases h with
  | b h =>
    intro q hq
    obtain ⟨ho, h1, _⟩ := h
    have e : q = p := by simpa using hq
    rw [e, h1]
    simp
  | ins h1 h2 h3 =>
    intro q hq
    rcases List.mem_cons.mp hq with e | hq
    · rw [e, h1]
      simp
    · exact flds_there h2 q hq
theorem slot_there {F H : Hp} {x : Option V} {s : Slot} {w : List Addr} (h : SlotOk Y K F H x s w) : ∀ q ∈ w, H q ≠ none := by
  cases h with
  | no => intro q hq; simp at hq
  | pin => intro q hq; simp at hq
  | val h => intro q hq; simp at hq
  | own h => exact own_there h
theorem flds_ntb {F H : Hp} : ∀ {vs : List (Str × V)} {fs : List (Str × Fld)} {w : List Addr}, FldsOk Y K F H vs fs w → ∀ q ∈ w, ∀ ps, H q ≠ some (.tbl ps)
  | _, _, _, .nil, q, hq => by simp at hq
  | _, _, _, .cons h t, q, hq => by
    rcases List.mem_append.mp hq with hq | hq
    · cases h with
      | val h => simp at hq
      | own h =>
        obtain ⟨ho, h1, h2⟩ := h
        intro ps z
        rw [List.mem_singleton.mp hq, h1] at z
        exact obis_ntb h2 ps (Option.some.inj z)
    · exact flds_ntb t q hq
theorem slot_ntb {F H : Hp} {x : Option V} {s : Slot} {w : List Addr} (h : SlotOk Y K F H x s w) : ∀ q ∈ w, ∀ ps, H q ≠ some (.tbl ps) := by
  cases h with
  | no => intro q hq; simp at hq
  | pin => intro q hq; simp at hq
  | val h => intro q hq; simp at hq
  | own h =>
    cases h with
    | b h =>
      intro q hq ps z
      obtain ⟨ho, h1, h2⟩ := h
      rw [List.mem_singleton.mp hq, h1] at z
      exact obis_ntb h2 ps (Option.some.inj z)
    | ins h1 h2 h3 =>
      intro q hq ps z
      rcases List.mem_cons.mp hq with e | hq
      · rw [e, h1] at z
        cases z
      · exact flds_ntb h2 q hq ps z
variable {vs0 : List V} {F H F' H' : Hp} {σ : St} {δ : List Slot} {w : Wn}
theorem SOk.w_at (S : SOk Y K vs0 F H σ δ w) {i : Nat} {p : Addr} (h : p ∈ w i) : ∃ s, δ[i]? = some s ∧ SlotOk Y K F H (σ[i]?.join) s (w i) := by
  cases e : δ[i]? with
  | none => rw [S.emp i e] at h; simp at h
  | some s => exact ⟨s, rfl, S.at_ i s e⟩
theorem SOk.there (S : SOk Y K vs0 F H σ δ w) {p : Addr} (h : w.has p) : H p ≠ none := by
  obtain ⟨i, hi⟩ := h
  obtain ⟨s, _, h2⟩ := S.w_at hi
  exact slot_there h2 p hi
theorem SOk.nofH (S : SOk Y K vs0 F H σ δ w) {p : Addr} (h : w.has p) : F p = none := by
  obtain ⟨i, hi⟩ := h
  exact S.nof i p hi
/-- behind new objects -/
theorem SOk.alc (S : SOk Y K vs0 F H σ δ w) (a : Alc F H F' H') : SOk Y K vs0 F' H' σ δ w where
  len := S.len
  sub := a.sub
  tab := S.tab.ext a.hh
  ntb := a.ntb S.ntb
  at_ := fun i s e => slot_ext a.ff (fun p _ ho h _ => a.hh p ho h) (S.at_ i s e)
  emp := S.emp
  nof := fun i p h => a.prot p (S.there ⟨i, h⟩) (S.nof i p h)
  dis := S.dis
  par := S.par
end

/-! ### the functions that code is -/
inductive Res (α : Type) where
  | ok (a : α) (δ : List Slot)
  | ex (c : Nat) (δ : List Slot)
abbrev M (α : Type) := List Slot → Option (Res α)
def mpure {α : Type} (a : α) : M α := fun δ => some (.ok a δ)
def mbind {α β : Type} (m : M α) (k : α → M β) : M β := fun δ => match m δ with
  | none => none
  | some (.ok a δ') => k a δ'
  | some (.ex c δ') => some (.ex c δ')
def mlift {α : Type} (o : Option α) : M α := fun δ => match o with
  | none => none
  | some a => some (.ok a δ)
def mfail {α : Type} : M α := fun _ => none

/-- what is fixed within a body: the layer, the written part, the arguments -/
structure Lx where
  Y : Lay
  K : PySem.W.Frag
  vs0 : List V
abbrev Lx.ok (C : Lx) := SOk C.Y C.K C.vs0
abbrev QM (α : Type) := α → List Slot → Wn → Hp → Hp → Prop
/-- m at δ: its end, and what is wanted of it -/
def tAt {α : Type} (C : Lx) (Wx : WX) (m : M α) (σ : St) (δ : List Slot) (w : Wn) (F H : Hp) (Q : QM α) : Prop :=
  match m δ with
  | none => False
  | some (.ok a δ') => ∀ w' F' H', C.ok F' H' σ δ' w' → Step w.has F H F' H' w'.has → Q a δ' w' F' H'
  | some (.ex c δ') => ∀ w' F' H', C.ok F' H' σ δ' w' → Step w.has F H F' H' w'.has → Wx (.ref (C.Y.ex c)) none σ H'
section
variable {α β : Type} {C : Lx} {Wx : WX} {σ : St} {δ : List Slot} {w : Wn} {F H : Hp}
theorem tAt_mono {m : M α} {Q Q' : QM α} (h : tAt C Wx m σ δ w F H Q) (hQ : ∀ a δ' w' F' H', C.ok F' H' σ δ' w' → Step w.has F H F' H' w'.has → Q a δ' w' F' H' → Q' a δ' w' F' H') : tAt C Wx m σ δ w F H Q' := by
  unfold tAt at h ⊢
  cases e : m δ with
  | none => rw [e] at h; exact h
  | some r =>
    rw [e] at h
    cases r with
    | ok a δ' => exact fun w' F' H' s g => hQ a δ' w' F' H' s g (h w' F' H' s g)
    | ex c δ' => exact h
theorem tAt_bind {m : M α} {k : α → M β} {Q : QM β} (h : tAt C Wx (mbind m k) σ δ w F H Q) : tAt C Wx m σ δ w F H fun a δ1 w1 F1 H1 => tAt C Wx (k a) σ δ1 w1 F1 H1 Q := by
  simp only [tAt, mbind] at h ⊢
  cases e : m δ with
  | none => rw [e] at h; exact h
  | some r =>
    rw [e] at h
    cases r with
    | ex c δ' => exact h
    | ok a δ1 =>
      intro w1 F1 H1 s1 g1
      dsimp only at h ⊢
      cases e2 : k a δ1 with
      | none => rw [e2] at h; exact h
      | some r2 =>
        rw [e2] at h
        cases r2 with
        | ok b δ2 => exact fun w2 F2 H2 s2 g2 => h w2 F2 H2 s2 (g1.trans g2)
        | ex c δ2 => exact fun w2 F2 H2 s2 g2 => h w2 F2 H2 s2 (g1.trans g2)
theorem tAt_bind0 {m : M α} {k : α → M β} {Q : QM β} (h : tAt C Wx (mbind m k) σ δ w F H Q) : tAt C Wx m σ δ w F H fun a δ1 _ _ _ => tAt C Wx (k a) σ δ1 w F H Q := by
  simp only [tAt, mbind] at h ⊢
  cases e : m δ with
  | none => rw [e] at h; exact h
  | some r =>
    rw [e] at h
    cases r with
    | ex c δ' => exact h
    | ok a δ1 => exact fun _ _ _ _ _ => h
theorem tAt_step {m : M α} {Q : QM α} {w0 : Wn} {F0 H0 : Hp} (g : Step w0.has F0 H0 F H w.has) (h : tAt C Wx m σ δ w0 F0 H0 Q) : tAt C Wx m σ δ w F H Q := by
  simp only [tAt] at h ⊢
  cases e : m δ with
  | none => rw [e] at h; exact h
  | some r =>
    rw [e] at h
    cases r with
    | ok b δ2 => exact fun w2 F2 H2 s2 g2 => h w2 F2 H2 s2 (g.trans g2)
    | ex c δ2 => exact fun w2 F2 H2 s2 g2 => h w2 F2 H2 s2 (g.trans g2)
theorem tAt_lift {o : Option α} {Q : QM α} (h : tAt C Wx (mlift o) σ δ w F H Q) : ∃ a, o = some a ∧ ∀ w' F' H', C.ok F' H' σ δ w' → Step w.has F H F' H' w'.has → Q a δ w' F' H' := by
  unfold tAt mlift at h
  cases o with
  | none => exact False.elim h
  | some a => exact ⟨a, rfl, h⟩
theorem tAt_pure {a : α} {Q : QM α} (h : tAt C Wx (mpure a) σ δ w F H Q) : ∀ w' F' H', C.ok F' H' σ δ w' → Step w.has F H F' H' w'.has → Q a δ w' F' H' := h
end
/-- the readings -/
def tE (C : Lx) (Wx : WX) (m : M PyData) : TE := fun σ H Q => ∃ δ w F, C.ok F H σ δ w ∧ tAt C Wx m σ δ w F H fun d _ _ F' H' => ∀ v, Dp C.K F' v d → Q v H'
def tT (C : Lx) (Wx : WX) (m : M Bool) : TT := fun σ H Q => ∃ δ w F, C.ok F H σ δ w ∧ tAt C Wx m σ δ w F H fun b _ _ _ H' => Q b H'
def tA (C : Lx) (Wx : WX) (m : M (List PyData)) : TA := fun σ H Q => ∃ δ w F, C.ok F H σ δ w ∧ tAt C Wx m σ δ w F H fun ds _ _ F' H' => ∀ vs, DpAll C.K F' vs ds → Q vs H'
theorem pe_weak {X : Cx} {e : Expr} {t t' : TE} (h : PE X e t) (i : ∀ σ H Q, t' σ H Q → t σ H Q) : PE X e t' := ⟨fun pins s σ H Q I q => h.run pins s σ H Q I (i σ H Q q)⟩
theorem pt_weak {X : Cx} {e : Expr} {t t' : TT} (h : PT X e t) (i : ∀ σ H Q, t' σ H Q → t σ H Q) : PT X e t' := ⟨fun pins s σ H Q I q => h.run pins s σ H Q I (i σ H Q q)⟩
theorem pa_weak {X : Cx} {e : List Expr} {t t' : TA} (h : PA X e t) (i : ∀ σ H Q, t' σ H Q → t σ H Q) : PA X e t' := ⟨fun pos pins s σ H Q I q => h.run pos pins s σ H Q I (i σ H Q q)⟩
theorem ps_weak {X : Cx} {e : Stmt} {t t' : TS} (h : PS X e t) (i : ∀ D σ H, t' D σ H → t D σ H) : PS X e t' := ⟨fun pins s σ H D I q => h.run pins s σ H D I (i D σ H q)⟩
theorem pss_weak {X : Cx} {e : List Stmt} {t t' : TS} (h : PSs X e t) (i : ∀ D σ H, t' D σ H → t D σ H) : PSs X e t' := ⟨fun pins s σ H D I q => h.run pins s σ H D I (i D σ H q)⟩
end RH

/-! The data layer, part 2: expressions. -/
namespace RH
open PySem PySem.Spec L2

/-! ### what is asked of a rule by values -/
/-- a two-place rule, by data: from what is for good (F) a result for good -/
def RD2 (K : PySem.W.Frag) (r : R2) (f : PyData → PyData → Option PyData) : Prop :=
  ∀ (F H : Hp) (x y : V) (d e z : PyData) (Q : VK), Grw F H → Dp K F x d → Dp K F y e → f d e = some z → (∀ v F' H', Alc F H F' H' → Dp K F' v z → Q v H') → r x y H Q
def RD1 (K : PySem.W.Frag) (r : V → Hp → VK → Prop) (f : PyData → Option PyData) : Prop :=
  ∀ (F H : Hp) (x : V) (d z : PyData) (Q : VK), Grw F H → Dp K F x d → f d = some z → (∀ v F' H', Alc F H F' H' → Dp K F' v z → Q v H') → r x H Q
def RDL (K : PySem.W.Frag) (r : List V → Hp → VK → Prop) (f : List PyData → Option PyData) : Prop :=
  ∀ (F H : Hp) (xs : List V) (ds : List PyData) (z : PyData) (Q : VK), Grw F H → DpAll K F xs ds → f ds = some z → (∀ v F' H', Alc F H F' H' → Dp K F' v z → Q v H') → r xs H Q
/-- a receiver and arguments -/
def RDM (K : PySem.W.Frag) (r : V → List V → Hp → VK → Prop) (f : PyData → List PyData → Option PyData) : Prop :=
  ∀ (F H : Hp) (x : V) (xs : List V) (d : PyData) (ds : List PyData) (z : PyData) (Q : VK), Grw F H → Dp K F x d → DpAll K F xs ds → f d ds = some z → (∀ v F' H', Alc F H F' H' → Dp K F' v z → Q v H') → r x xs H Q
def RDS (K : PySem.W.Frag) (r : V → Option Int → Option Int → Hp → VK → Prop) (f : PyData → Option Int → Option Int → Option PyData) : Prop :=
  ∀ (F H : Hp) (x : V) (lo hi : Option Int) (d z : PyData) (Q : VK), Grw F H → Dp K F x d → f d lo hi = some z → (∀ v F' H', Alc F H F' H' → Dp K F' v z → Q v H') → r x lo hi H Q

/-! ### the functions -/
def m2 (f : PyData → PyData → Option PyData) (a b : M PyData) : M PyData := mbind a fun x => mbind b fun y => mlift (f x y)
def m1 (f : PyData → Option PyData) (a : M PyData) : M PyData := mbind a fun x => mlift (f x)
def mcons (a : M PyData) (b : M (List PyData)) : M (List PyData) := mbind a fun x => mbind b fun xs => mpure (x :: xs)
def mnil : M (List PyData) := mpure []
def mL (f : List PyData → Option PyData) (a : M (List PyData)) : M PyData := mbind a fun xs => mlift (f xs)
def mM (f : PyData → List PyData → Option PyData) (a : M PyData) (b : M (List PyData)) : M PyData := mbind a fun x => mbind b fun xs => mlift (f x xs)
def asB : PyData → Option Bool
  | .bool b => some b
  | _ => none
def mtest (a : M PyData) : M Bool := mbind a fun x => mlift (asB x)
def mval (a : M Bool) : M PyData := mbind a fun b => mpure (.bool b)
def mand (a b : M Bool) : M Bool := mbind a fun x => if x then b else mpure false
def mor (a b : M Bool) : M Bool := mbind a fun x => if x then mpure true else b
def mnot (a : M Bool) : M Bool := mbind a fun x => mpure (!x)
def mif {α : Type} (c : M Bool) (a b : M α) : M α := mbind c fun x => if x then a else b
/-- a name; an owned list that is read so is for good from then on -/
def mvar (i : Nat) : M PyData := fun δ => match δ[i]? with
  | some (.val d) => some (.ok d δ)
  | some (.own (.b (.lst xs))) => some (.ok (.list xs) (δ.set i (.val (.list xs))))
  | _ => none
/-- what an owned list holds, now -/
def lookL (δ : List Slot) (i : Nat) : Option (List PyData) := match δ[i]? with
  | some (.own (.b (.lst xs))) => some xs
  | _ => none

section
variable {X : Cx} {C : Lx} {Wx : WX} {σ : St} {δ : List Slot} {w : Wn} {F H : Hp}
theorem SOk.here (S : C.ok F H σ δ w) : Step w.has F H F H w.has := Step.refl fun _ h => h
theorem tAt_alc {m : M PyData} {z : PyData} {Q : VK} (S : C.ok F H σ δ w) (h : tAt C Wx (mlift (some z)) σ δ w F H fun d _ _ F' H' => ∀ v, Dp C.K F' v d → Q v H') : ∀ v F' H', Alc F H F' H' → Dp C.K F' v z → Q v H' := fun v F' H' a hv =>
  h w F' H' (S.alc a) (a.step _ _ fun _ h => h) v hv
/-- by a rule on values: the same function's end -/
theorem tAt_fin {o : Option PyData} {Q : VK} {R : Prop} (S : C.ok F H σ δ w) (h : tAt C Wx (mlift o) σ δ w F H fun d _ _ F' H' => ∀ v, Dp C.K F' v d → Q v H')
    (k : ∀ z, o = some z → (∀ v F' H', Alc F H F' H' → Dp C.K F' v z → Q v H') → R) : R := by
  obtain ⟨z, e, q⟩ := tAt_lift h
  exact k z e fun v F' H' a hv => q w F' H' (S.alc a) (a.step _ _ fun _ h => h) v hv

variable {a b c : Expr} {e : Expr} {es : List Expr} {ma mb mc : M PyData} {ms : M (List PyData)} {ta tb : M Bool} {pos p : Pos}
theorem tE_use {m : M PyData} {Q : VK} {R : Prop} (h : tE C Wx m σ H Q) (k : ∀ δ w F, C.ok F H σ δ w → tAt C Wx m σ δ w F H (fun d _ _ F' H' => ∀ v, Dp C.K F' v d → Q v H') → R) : R := by
  obtain ⟨δ, w, F, S, h⟩ := h
  exact k δ w F S h
/-- the first part of a function, then the rest -/
theorem tE_then {m : M PyData} {β : Type} {k : PyData → M β} {R : VK} {Q : QM β} (S : C.ok F H σ δ w) (h : tAt C Wx (mbind m k) σ δ w F H Q)
    (q : ∀ d δ1 w1 F1 H1 v, C.ok F1 H1 σ δ1 w1 → Step w.has F H F1 H1 w1.has → Dp C.K F1 v d → tAt C Wx (k d) σ δ1 w1 F1 H1 Q → R v H1) : tE C Wx m σ H R :=
  ⟨δ, w, F, S, tAt_mono (tAt_bind h) fun d δ1 w1 F1 H1 s1 g1 h1 v hv => q d δ1 w1 F1 H1 v s1 g1 hv h1⟩
theorem tT_then {m : M Bool} {β : Type} {k : Bool → M β} {R : Bool → Hp → Prop} {Q : QM β} (S : C.ok F H σ δ w) (h : tAt C Wx (mbind m k) σ δ w F H Q)
    (q : ∀ d δ1 w1 F1 H1, C.ok F1 H1 σ δ1 w1 → Step w.has F H F1 H1 w1.has → tAt C Wx (k d) σ δ1 w1 F1 H1 Q → R d H1) : tT C Wx m σ H R :=
  ⟨δ, w, F, S, tAt_mono (tAt_bind h) fun d δ1 w1 F1 H1 s1 g1 h1 => q d δ1 w1 F1 H1 s1 g1 h1⟩
theorem tA_then {m : M (List PyData)} {β : Type} {k : List PyData → M β} {R : List V → Hp → Prop} {Q : QM β} (S : C.ok F H σ δ w) (h : tAt C Wx (mbind m k) σ δ w F H Q)
    (q : ∀ d δ1 w1 F1 H1 v, C.ok F1 H1 σ δ1 w1 → Step w.has F H F1 H1 w1.has → DpAll C.K F1 v d → tAt C Wx (k d) σ δ1 w1 F1 H1 Q → R v H1) : tA C Wx m σ H R :=
  ⟨δ, w, F, S, tAt_mono (tAt_bind h) fun d δ1 w1 F1 H1 s1 g1 h1 v hv => q d δ1 w1 F1 H1 v s1 g1 hv h1⟩
theorem tE_of {m : M PyData} {Q : VK} (S : C.ok F H σ δ w) (h : tAt C Wx m σ δ w F H fun d _ _ F' H' => ∀ v, Dp C.K F' v d → Q v H') : tE C Wx m σ H Q := ⟨δ, w, F, S, h⟩
theorem tT_of {m : M Bool} {Q : Bool → Hp → Prop} (S : C.ok F H σ δ w) (h : tAt C Wx m σ δ w F H fun b _ _ _ H' => Q b H') : tT C Wx m σ H Q := ⟨δ, w, F, S, h⟩

abbrev PD (X : Cx) (C : Lx) (Wx : WX) (e : Expr) (m : M PyData) : Prop := PE X e (tE C Wx m)
abbrev PB (X : Cx) (C : Lx) (Wx : WX) (e : Expr) (m : M Bool) : Prop := PT X e (tT C Wx m)
abbrev PL (X : Cx) (C : Lx) (Wx : WX) (es : List Expr) (m : M (List PyData)) : Prop := PA X es (tA C Wx m)

/-! ### constants, names -/
theorem pd_const {e : Expr} {v : V} {d : PyData} (h : PE X e (tC v)) (hv : ∀ F, Dp C.K F v d) : PD X C Wx e (mpure d) :=
  pe_weak h fun σ H Q q => tE_use q fun δ w F S h => tAt_pure h w F H S S.here v (hv F)
theorem pd_int {i : Int} {j : Nat} : PD X C Wx (.Constant (.int i) j pos) (mpure (.int i)) := pd_const pe_int fun _ => .int i
theorem pd_bool {i : Bool} {j : Nat} : PD X C Wx (.Constant (.bool i) j pos) (mpure (.bool i)) := pd_const pe_bl fun _ => .bl i
theorem pd_none {j : Nat} : PD X C Wx (.Constant .none j pos) (mpure .none) := pd_const pe_non fun _ => .non
theorem pd_str {x : Str} {j : Nat} : PD X C Wx (.Constant (.str x) j pos) (mpure (.str x)) := pd_const pe_str fun _ => .str x
/-- a text, a number of the module -/
theorem pd_globI {x : Str} {i : Int} {t : Tok} (hm : X.mg x = some (.int i t)) (hg : Gl X x := by rfl) (hd : (x == ("__debug__" : Str)) = false := by decide) : PD X C Wx (.Name x pos) (mpure (.int i)) := pd_const (pe_glob (v := V.int i) hg hm ⟨_, rfl⟩ hd) fun _ => .int i
theorem pd_globS {x z : Str} {t : Tok} (hm : X.mg x = some (.str z t)) (hg : Gl X x := by rfl) (hd : (x == ("__debug__" : Str)) = false := by decide) : PD X C Wx (.Name x pos) (mpure (.str z)) := pd_const (pe_glob (v := V.str z) hg hm ⟨_, rfl⟩ hd) fun _ => .str z
end

section
variable {Y : Lay} {K : PySem.W.Frag} {vs0 : List V} {F H : Hp} {σ : St} {δ : List Slot} {w : Wn}
/-- a slot's objects taken out of the owned ones -/
def Wn.off (w : Wn) (i : Nat) : Wn := fun j => if j = i then [] else w j
theorem Wn.off_sub {w : Wn} {i : Nat} : ∀ {j p}, p ∈ w.off i j → p ∈ w j := fun {j p} h => by
  unfold Wn.off at h
  split at h
  · simp at h
  · exact h
theorem Wn.off_has {w : Wn} {i : Nat} {p : Addr} (h : (w.off i).has p) : w.has p := let ⟨j, hj⟩ := h; ⟨j, Wn.off_sub hj⟩
theorem Wn.off_self {w : Wn} {i : Nat} : w.off i i = [] := if_pos rfl
theorem Wn.off_ne {w : Wn} {i j : Nat} (h : j ≠ i) : w.off i j = w j := if_neg h
/-- an owned list's object -/
theorem SOk.ownL (S : SOk Y K vs0 F H σ δ w) {i : Nat} {xs : List PyData} (e : δ[i]? = some (.own (.b (.lst xs)))) :
    ∃ p vs, σ[i]? = some (some (.ref p)) ∧ H p = some (.lst vs) ∧ DpAll K F vs xs ∧ w i = [p] := by
  have h := S.at_ i _ e
  cases q : σ[i]? with
  | none =>
    rw [q] at h
    cases h
  | some o =>
    rw [q] at h
    generalize hw : w i = wi at h
    have h' : SlotOk Y K F H o (.own (.b (.lst xs))) wi := h
    cases h' with
    | own h' =>
      cases h' with
      | b h' =>
        obtain ⟨ho, h1, vs, h2, h3⟩ := h'
        subst h2
        exact ⟨_, vs, rfl, h1, h3, rfl⟩
theorem SOk.valD (S : SOk Y K vs0 F H σ δ w) {i : Nat} {d : PyData} (e : δ[i]? = some (.val d)) : ∃ v, σ[i]? = some (some v) ∧ Dp K F v d := by
  have h := S.at_ i _ e
  cases q : σ[i]? with
  | none =>
    rw [q] at h
    cases h
  | some o =>
    rw [q] at h
    generalize hw : w i = wi at h
    have h' : SlotOk Y K F H o (.val d) wi := h
    cases h' with
    | val h' => exact ⟨_, rfl, h'⟩
/-- slot i is told anew: what it held is for good from F' on, or is no more told -/
theorem SOk.retell (S : SOk Y K vs0 F H σ δ w) {i : Nat} {s : Slot} {F' : Hp} (ff : Grw F F') (sub : Grw F' H) (ntb : ∀ b o, F' b = some o → okO o) (hs : SlotOk Y K F' H (σ[i]?.join) s []) (nw : ∀ j p, j ≠ i → p ∈ w j → F' p = none) :
    SOk Y K vs0 F' H σ (δ.set i s) (w.off i) where
  len := by rw [List.length_set]; exact S.len
  sub := sub
  tab := S.tab
  ntb := ntb
  at_ := fun j s' e => by
    by_cases hj : j = i
    · subst hj
      by_cases hl : j < δ.length
      · rw [List.getElem?_set_self hl] at e
        cases e
        rw [Wn.off_self]
        exact hs
      · rw [List.getElem?_eq_none (by rw [List.length_set]; omega)] at e
        cases e
    · rw [List.getElem?_set_ne (Ne.symm hj)] at e
      rw [Wn.off_ne hj]
      exact slot_ext ff (fun _ _ _ h _ => h) (S.at_ j s' e)
  emp := fun j e => by
    by_cases hj : j = i
    · subst hj
      exact Wn.off_self
    · rw [List.getElem?_set_ne (Ne.symm hj)] at e
      rw [Wn.off_ne hj]
      exact S.emp j e
  nof := fun j p h => by
    by_cases hj : j = i
    · subst hj
      rw [Wn.off_self] at h
      simp at h
    · rw [Wn.off_ne hj] at h
      exact nw j p hj h
  dis := fun j k p h1 h2 => S.dis j k p (Wn.off_sub h1) (Wn.off_sub h2)
  par := fun j v o h1 h2 => by
    by_cases hj : j = i
    · subst hj
      by_cases hl : j < δ.length
      · rw [List.getElem?_set_self hl] at h2
        have h2' := Option.some.inj h2
        subst h2'
        cases q : σ[j]? with
        | none =>
          rw [q] at hs
          cases hs
        | some o' =>
          rw [q] at hs
          have hs' : SlotOk Y K F' H o' (.own o) [] := hs
          generalize hw : ([] : List Addr) = wi at hs'
          cases hs' with
          | own hs' =>
            have := own_mem hs'
            rw [← hw] at this
            simp at this
      · rw [List.getElem?_eq_none (by rw [List.length_set]; omega)] at h2
        cases h2
    · rw [List.getElem?_set_ne (Ne.symm hj)] at h2
      exact S.par j v o h1 h2
/-- an owned list becomes a value for good -/
theorem SOk.freeze (S : SOk Y K vs0 F H σ δ w) {i : Nat} {xs : List PyData} (e : δ[i]? = some (.own (.b (.lst xs)))) :
    ∃ p vs, σ[i]? = some (some (.ref p)) ∧ H p = some (.lst vs) ∧ w i = [p] ∧ DpAll K (upd F p (.lst vs)) vs xs ∧ SOk Y K vs0 (upd F p (.lst vs)) H σ (δ.set i (.val (.list xs))) (w.off i) ∧
      Step w.has F H (upd F p (.lst vs)) H (w.off i).has := by
  obtain ⟨p, vs, h1, h2, h3, h4⟩ := S.ownL e
  have hp : p ∈ w i := by rw [h4]; simp
  have nF : F p = none := S.nof i p hp
  have ff : Grw F (upd F p (.lst vs)) := Grw.new nF
  have d' : DpAll K (upd F p (.lst vs)) vs xs := dps_ext ff h3
  refine ⟨p, vs, h1, h2, h4, d', S.retell ff (fun b o q => ?_) (fun b ps q => ?_) ?_ (fun j q hj hq => ?_), ⟨ff, fun _ _ _ h _ => h, fun _ h => h, fun b h5 h6 h7 => ?_, fun b h => .inl (Wn.off_has h)⟩⟩
  · by_cases hb : b = p
    · subst hb
      rw [upd_same] at q
      rw [h2]
      exact q
    · rw [upd_ne hb] at q
      exact S.sub b o q
  · by_cases hb : b = p
    · subst hb
      rw [upd_same] at q
      rw [← Option.some.inj q]
      exact trivial
    · rw [upd_ne hb] at q
      exact S.ntb b ps q
  · rw [h1]
    exact .val (.lst (.inl (.inl upd_same)) d')
  · rw [upd_ne (fun z => hj (S.dis j i p (by rw [← z]; exact hq) hp))]
    exact S.nof j q hq
  · rw [upd_ne (fun z => h7 ⟨i, by rw [z]; exact hp⟩)]
    exact h6
end
section
variable {X : Cx} {C : Lx} {Wx : WX} {x : Str} {pos : Pos}
theorem pd_var (i : Nat) (hN : X.N[i]? = some x := by rfl) (hv : Vis X.env.scope x := by first | exact Or.inl rfl | exact Or.inr (Or.inl rfl) | exact Or.inr (Or.inr rfl)) (hd : (x == ("__debug__" : Str)) = false := by decide)
    (hcd : (x == ("__classdict__" : Str)) = false := by decide) : PD X C Wx (.Name x pos) (mvar i) := by
  refine pe_weak (pe_var hN hv hd hcd) fun σ H Q q => tE_use q fun δ w F S h => ?_
  unfold tAt mvar at h
  cases e : δ[i]? with
  | none => rw [e] at h; exact False.elim h
  | some s =>
    rw [e] at h
    cases s with
    | no => exact False.elim h
    | pin => exact False.elim h
    | val d =>
      obtain ⟨v, h1, h2⟩ := S.valD e
      exact ⟨v, h1, h w F H S S.here v h2⟩
    | own o =>
      cases o with
      | ins => exact False.elim h
      | b o =>
        cases o with
        | dct => exact False.elim h
        | lst xs =>
          obtain ⟨p, vs, h1, h2, h3, h4, S', g⟩ := S.freeze e
          exact ⟨.ref p, h1, h _ _ H S' g _ (.lst (.inl (.inl upd_same)) h4)⟩

/-! ### operators -/
variable {a b c e : Expr} {es : List Expr} {ma mb mc : M PyData} {ms : M (List PyData)} {ta tb : M Bool} {p : Pos}
theorem pd_op {op : Operator} {r : R2} {f : PyData → PyData → Option PyData} (ho : OpR X (binaryOp op) r) (hr : RD2 C.K r f) (ha : PD X C Wx a ma) (hb : PD X C Wx b mb) : PD X C Wx (.BinOp a op b pos) (m2 f ma mb) := by
  refine pe_weak (pe_op ho ha hb) fun σ H Q q => tE_use q fun δ w F S h => ?_
  refine tE_then S h fun d δ1 w1 F1 H1 v S1 g1 hv h1 => ?_
  refine tE_then S1 h1 fun d2 δ2 w2 F2 H2 v2 S2 g2 hv2 h2 => ?_
  exact tAt_fin S2 h2 fun z e k => hr F2 H2 v v2 d d2 z Q S2.sub (dp_ext g2.ff hv) hv2 e k
theorem pd_un {op : UnaryOp} {r : V → Hp → VK → Prop} {f : PyData → Option PyData} (ho : UnR X (unaryOp op) r) (hr : RD1 C.K r f) (ha : PD X C Wx a ma) : PD X C Wx (.UnaryOp op a pos) (m1 f ma) := by
  refine pe_weak (pe_un ho ha) fun σ H Q q => tE_use q fun δ w F S h => ?_
  refine tE_then S h fun d δ1 w1 F1 H1 v S1 g1 hv h1 => ?_
  exact tAt_fin S1 h1 fun z e k => hr F1 H1 v d z Q S1.sub hv e k
theorem pd_cmp {op : CmpOp} {r : R2} {f : PyData → PyData → Option PyData} (ho : OpR X (compareOp op) r) (hr : RD2 C.K r f) (ha : PD X C Wx a ma) (hb : PD X C Wx b mb) (hm : behindInMarks op b = false := by first | exact nomark _ | rfl) :
    PD X C Wx (.Compare a [op] [b] pos) (m2 f ma mb) := by
  refine pe_weak (pe_cmpR ho ha hb hm) fun σ H Q q => tE_use q fun δ w F S h => ?_
  refine tE_then S h fun d δ1 w1 F1 H1 v S1 g1 hv h1 => ?_
  refine tE_then S1 h1 fun d2 δ2 w2 F2 H2 v2 S2 g2 hv2 h2 => ?_
  exact tAt_fin S2 h2 fun z e k => hr F2 H2 v v2 d d2 z Q S2.sub (dp_ext g2.ff hv) hv2 e k
theorem pd_ix {r : R2} {f : PyData → PyData → Option PyData} (ho : IxR X r) (hr : RD2 C.K r f) (ha : PD X C Wx a ma) (hb : PD X C Wx b mb) (hs : PlainIx b := by exact fun _ _ => rfl) : PD X C Wx (.Subscript a b pos) (m2 f ma mb) := by
  refine pe_weak (pe_ix ho ha hb hs) fun σ H Q q => tE_use q fun δ w F S h => ?_
  refine tE_then S h fun d δ1 w1 F1 H1 v S1 g1 hv h1 => ?_
  refine tE_then S1 h1 fun d2 δ2 w2 F2 H2 v2 S2 g2 hv2 h2 => ?_
  exact tAt_fin S2 h2 fun z e k => hr F2 H2 v v2 d d2 z Q S2.sub (dp_ext g2.ff hv) hv2 e k
theorem asB_of {K : PySem.W.Frag} {F : Hp} {v : V} {d : PyData} {k : Bool} (hv : Dp K F v d) (e : asB d = some k) : v = .bl k ∧ d = .bool k := by
  cases d with
  | bool kb =>
    cases hv
    cases e
    exact ⟨rfl, rfl⟩
  | _ => cases e
/-- a < b < c -/
def mchain (f g : PyData → PyData → Option PyData) (a b c : M PyData) : M PyData := mbind a fun x => mbind b fun y => mbind (mlift (f x y)) fun r => mbind (mlift (asB r)) fun k => if k then mbind c fun z => mlift (g y z) else mpure (.bool false)
theorem pd_chain {op op' : CmpOp} {r r' : R2} {f g : PyData → PyData → Option PyData} (ho : OpR X (compareOp op) r) (hr : RD2 C.K r f) (ho' : OpR X (compareOp op') r') (hr' : RD2 C.K r' g) (ha : PD X C Wx a ma) (hb : PD X C Wx b mb) (hc : PD X C Wx c mc)
    (hm : lastMarks [op, op'] [b, c] = false := by with_unfolding_all rfl) : PD X C Wx (.Compare a [op, op'] [b, c] pos) (mchain f g ma mb mc) := by
  refine pe_weak (pe_chain ho ho' ha hb hc hm) fun σ H Q q => tE_use q fun δ w F S h => ?_
  refine tE_then S h fun d δ1 w1 F1 H1 v S1 g1 hv h1 => ?_
  refine tE_then S1 h1 fun d2 δ2 w2 F2 H2 v2 S2 g2 hv2 h2 => ?_
  have h3 := tAt_bind h2
  obtain ⟨z, ez, q3⟩ := tAt_lift h3
  refine hr F2 H2 v v2 d d2 z _ S2.sub (dp_ext g2.ff hv) hv2 ez fun v3 F3 H3 al hv3 => ?_
  have h4 := tAt_bind (q3 w2 F3 H3 (S2.alc al) (al.step _ _ fun _ h => h))
  obtain ⟨k, ek, q4⟩ := tAt_lift h4
  have S3 := S2.alc al
  have h5 := q4 w2 F3 H3 S3 S3.here
  obtain ⟨rfl, rfl⟩ := asB_of hv3 ek
  refine ⟨_, rfl, ?_⟩
  cases k with
  | true =>
    rw [if_pos rfl] at h5
    rw [if_pos rfl]
    refine tE_then S3 h5 fun d5 δ5 w5 F5 H5 v5 S5 g5 hv5 h6 => ?_
    exact tAt_fin S5 h6 fun z e k => hr' F5 H5 v2 v5 d2 d5 z Q S5.sub (dp_ext (al.ff.trans g5.ff) hv2) hv5 e k
  | false =>
    rw [if_neg Bool.false_ne_true] at h5
    rw [if_neg Bool.false_ne_true]
    exact h5 w2 F3 H3 S3 S3.here _ (.bl false)

/-! ### tests -/
theorem pb_val (h : PD X C Wx e ma) (he : ∀ whole, isTrue e X.env whole = (do let v ← whole; standAt e.pos; holding [v] (truthy v)) := by intro _; rfl) : PB X C Wx e (mtest ma) := by
  refine pt_weak (pt_val h he) fun σ H Q q => ?_
  obtain ⟨δ, w, F, S, h⟩ := q
  refine tE_then S h fun d δ1 w1 F1 H1 v S1 g1 hv h1 => ?_
  obtain ⟨k, ek, q2⟩ := tAt_lift h1
  obtain ⟨rfl, rfl⟩ := asB_of hv ek
  exact ⟨_, rfl, q2 w1 F1 H1 S1 S1.here⟩
theorem pb_cmp {op : CmpOp} {r : R2} {f : PyData → PyData → Option PyData} (ho : OpR X (compareOp op) r) (hr : RD2 C.K r f) (ha : PD X C Wx a ma) (hb : PD X C Wx b mb) (hm : behindInMarks op b = false := by first | exact nomark _ | rfl) :
    PB X C Wx (.Compare a [op] [b] pos) (mtest (m2 f ma mb)) := by
  refine pt_weak (pt_cmpR ho ha hb hm) fun σ H Q q => ?_
  obtain ⟨δ, w, F, S, h⟩ := q
  have h' : tAt C Wx (mbind ma fun x => mbind mb fun y => mbind (mlift (f x y)) fun z => mlift (asB z)) σ δ w F H fun b _ _ _ H' => Q b H' := by
    have e : mtest (m2 f ma mb) = mbind ma fun x => mbind mb fun y => mbind (mlift (f x y)) fun z => mlift (asB z) := by
      funext δ
      unfold mtest m2
      simp only [mbind]
      cases ma δ with
      | none => rfl
      | some r =>
        cases r with
        | ex => rfl
        | ok x δ1 =>
          dsimp only
          cases mb δ1 with
          | none => rfl
          | some r =>
            cases r with
            | ex => rfl
            | ok y δ2 => rfl
    rw [← e]
    exact h
  refine tE_then S h' fun d δ1 w1 F1 H1 v S1 g1 hv h1 => ?_
  refine tE_then S1 h1 fun d2 δ2 w2 F2 H2 v2 S2 g2 hv2 h2 => ?_
  obtain ⟨z, ez, q3⟩ := tAt_lift (tAt_bind h2)
  refine hr F2 H2 v v2 d d2 z _ S2.sub (dp_ext g2.ff hv) hv2 ez fun v3 F3 H3 al hv3 => ?_
  have S3 := S2.alc al
  obtain ⟨k, ek, q4⟩ := tAt_lift (q3 w2 F3 H3 S3 (al.step _ _ fun _ h => h))
  obtain ⟨rfl, rfl⟩ := asB_of hv3 ek
  exact ⟨_, rfl, q4 w2 F3 H3 S3 S3.here⟩
theorem pb_not (h : PB X C Wx a ta) : PB X C Wx (.UnaryOp .Not a pos) (mnot ta) := by
  refine pt_weak (pt_not h) fun σ H Q q => ?_
  obtain ⟨δ, w, F, S, h⟩ := q
  exact tT_then S h fun d δ1 w1 F1 H1 S1 g1 h1 => tAt_pure h1 w1 F1 H1 S1 S1.here
theorem ite_mfun {α : Type} {k : Bool} {m1 m2 : M α} {Q : QM α} {σ : St} {δ : List Slot} {w : Wn} {F H : Hp} (h : tAt C Wx (if k = true then m1 else m2) σ δ w F H Q) : (k = true ∧ tAt C Wx m1 σ δ w F H Q) ∨ (k = false ∧ tAt C Wx m2 σ δ w F H Q) := by
  cases k with
  | true => exact .inl ⟨rfl, h⟩
  | false => exact .inr ⟨rfl, h⟩
abbrev PBW (X : Cx) (C : Lx) (Wx : WX) (e : Expr) (m : M Bool) : Prop := PW X e (tT C Wx m)
theorem pb_and1 (ha : PB X C Wx a ta) : PBW X C Wx (.BoolOp .And [a] pos) ta := pw_and1 ha
theorem pb_or1 (ha : PB X C Wx a ta) : PBW X C Wx (.BoolOp .Or [a] pos) ta := pw_or1 ha
theorem pb_and (ha : PB X C Wx a ta) (hb : PBW X C Wx (.BoolOp .And (b :: es) pos) tb) : PBW X C Wx (.BoolOp .And (a :: b :: es) pos) (mand ta tb) := by
  have h0 := pw_and ha hb
  refine ⟨fun wh pins s σ H Q I q => h0.run wh pins s σ H Q I ?_⟩
  obtain ⟨δ, w, F, S, h⟩ := q
  refine tT_then S h fun d δ1 w1 F1 H1 S1 g1 h1 => ?_
  rcases ite_mfun h1 with ⟨rfl, h2⟩ | ⟨rfl, h2⟩
  · rw [if_pos rfl]
    exact tT_of S1 h2
  · rw [if_neg Bool.false_ne_true]
    exact tAt_pure h2 w1 F1 H1 S1 S1.here
theorem pb_or (ha : PB X C Wx a ta) (hb : PBW X C Wx (.BoolOp .Or (b :: es) pos) tb) : PBW X C Wx (.BoolOp .Or (a :: b :: es) pos) (mor ta tb) := by
  have h0 := pw_or ha hb
  refine ⟨fun wh pins s σ H Q I q => h0.run wh pins s σ H Q I ?_⟩
  obtain ⟨δ, w, F, S, h⟩ := q
  refine tT_then S h fun d δ1 w1 F1 H1 S1 g1 h1 => ?_
  rcases ite_mfun h1 with ⟨rfl, h2⟩ | ⟨rfl, h2⟩
  · rw [if_pos rfl]
    exact tAt_pure h2 w1 F1 H1 S1 S1.here
  · rw [if_neg Bool.false_ne_true]
    exact tT_of S1 h2
theorem pb_w (h : PBW X C Wx e ta) : PB X C Wx e ta := h.pt
/-- and, or of truths, as values -/
def mandV (a b : M PyData) : M PyData := mbind a fun x => mbind (mlift (asB x)) fun k => if k then b else mpure (.bool false)
def morV (a b : M PyData) : M PyData := mbind a fun x => mbind (mlift (asB x)) fun k => if k then mpure (.bool true) else b
def mnotV (a : M PyData) : M PyData := mbind a fun x => mbind (mlift (asB x)) fun k => mpure (.bool !k)
theorem pd_one {op : BoolOp} (h : PD X C Wx a ma) : PD X C Wx (.BoolOp op [a] pos) ma := pe_one h
theorem pd_and (ha : PD X C Wx a ma) (hb : PD X C Wx (.BoolOp .And (b :: es) pos) mb) : PD X C Wx (.BoolOp .And (a :: b :: es) pos) (mandV ma mb) := by
  refine pe_weak (pe_and ha hb) fun σ H Q q => tE_use q fun δ w F S h => ?_
  refine tE_then S h fun d δ1 w1 F1 H1 v S1 g1 hv h1 => ?_
  obtain ⟨k, ek, q2⟩ := tAt_lift (tAt_bind h1)
  obtain ⟨rfl, rfl⟩ := asB_of hv ek
  refine ⟨k, rfl, ?_⟩
  rcases ite_mfun (q2 w1 F1 H1 S1 S1.here) with ⟨rfl, h2⟩ | ⟨rfl, h2⟩
  · rw [if_pos rfl]
    exact tE_of S1 h2
  · rw [if_neg Bool.false_ne_true]
    exact tAt_pure h2 w1 F1 H1 S1 S1.here _ (.bl false)
theorem pd_or (ha : PD X C Wx a ma) (hb : PD X C Wx (.BoolOp .Or (b :: es) pos) mb) : PD X C Wx (.BoolOp .Or (a :: b :: es) pos) (morV ma mb) := by
  refine pe_weak (pe_or ha hb) fun σ H Q q => tE_use q fun δ w F S h => ?_
  refine tE_then S h fun d δ1 w1 F1 H1 v S1 g1 hv h1 => ?_
  obtain ⟨k, ek, q2⟩ := tAt_lift (tAt_bind h1)
  obtain ⟨rfl, rfl⟩ := asB_of hv ek
  refine ⟨k, rfl, ?_⟩
  rcases ite_mfun (q2 w1 F1 H1 S1 S1.here) with ⟨rfl, h2⟩ | ⟨rfl, h2⟩
  · rw [if_pos rfl]
    exact tAt_pure h2 w1 F1 H1 S1 S1.here _ (.bl true)
  · rw [if_neg Bool.false_ne_true]
    exact tE_of S1 h2
theorem pd_not (ha : PD X C Wx a ma) : PD X C Wx (.UnaryOp .Not a pos) (mnotV ma) := by
  refine pe_weak (pe_not ha) fun σ H Q q => tE_use q fun δ w F S h => ?_
  refine tE_then S h fun d δ1 w1 F1 H1 v S1 g1 hv h1 => ?_
  obtain ⟨k, ek, q2⟩ := tAt_lift (tAt_bind h1)
  obtain ⟨rfl, rfl⟩ := asB_of hv ek
  exact ⟨k, rfl, tAt_pure (q2 w1 F1 H1 S1 S1.here) w1 F1 H1 S1 S1.here _ (.bl !k)⟩
/-- a if t else b -/
theorem pd_if (hc : PB X C Wx c ta) (ha : PD X C Wx a ma) (hb : PD X C Wx b mb) : PD X C Wx (.IfExp c a b pos) (mif ta ma mb) := by
  refine pe_weak (pe_ifExp hc ha hb) fun σ H Q q => tE_use q fun δ w F S h => ?_
  refine tT_then S h fun d δ1 w1 F1 H1 S1 g1 h1 => ?_
  rcases ite_mfun h1 with ⟨rfl, h2⟩ | ⟨rfl, h2⟩
  · rw [if_pos rfl]
    exact tE_of S1 h2
  · rw [if_neg Bool.false_ne_true]
    exact tE_of S1 h2

/-! ### lists of expressions, displays, calls of built-ins -/
theorem pl_nil : PL X C Wx [] mnil := by
  refine pa_weak pa_nil fun σ H Q q => ?_
  obtain ⟨δ, w, F, S, h⟩ := q
  exact tAt_pure h w F H S S.here [] .nil
theorem pl_cons (ha : PD X C Wx e ma) (hr : PL X C Wx es ms) (hs : starEach (e :: es) X.env = (false, eval e X.env) :: starEach es X.env := by rfl) : PL X C Wx (e :: es) (mcons ma ms) := by
  refine pa_weak (pa_cons ha hr hs) fun σ H Q q => ?_
  obtain ⟨δ, w, F, S, h⟩ := q
  refine tE_then S h fun d δ1 w1 F1 H1 v S1 g1 hv h1 => ?_
  refine tA_then S1 h1 fun ds δ2 w2 F2 H2 vs S2 g2 hvs h2 => ?_
  exact tAt_pure h2 w2 F2 H2 S2 S2.here _ (.cons (dp_ext g2.ff hv) hvs)
def mkTup (xs : List PyData) : Option PyData := if xs.length ≤ 1000000 then some (.tuple xs) else none
def mkLst (xs : List PyData) : Option PyData := if xs.length ≤ 1000000 then some (.list xs) else none
theorem small_ok {n : Nat} (h : n ≤ 1000000) : n ≤ sizeLine := Nat.le_trans h (by decide)
theorem small_lt {n : Nat} (h : n ≤ 1000000) : n < sizeLine := Nat.lt_of_le_of_lt h (by decide)
theorem new_tup {K : PySem.W.Frag} {F H : Hp} {p : Addr} {xs : List V} {ds : List PyData} {ob : Obj} (ho : ob.dict = none) (g : Grw F H) (hp : H p = none) (h : DpAll K F xs ds) : Alc F H (upd F p (.frz ob (.tup xs))) (upd H p (.frz ob (.tup xs))) ∧ Dp K (upd F p (.frz ob (.tup xs))) (.ref p) (.tuple ds) :=
  have a := Alc.new (o := .frz ob (.tup xs)) g hp ho
  ⟨a, .tup (.inl (.inr ⟨ob, upd_same⟩)) (dps_ext a.ff h)⟩
/-- a tuple written: an object without a dict -/
def tTupP (t : TA) : TE := fun σ H Q => t σ H fun xs H1 => xs.length ≤ sizeLine ∧ ∀ p ob, ob.dict = none → H1 p = none → Q (.ref p) (upd H1 p (.frz ob (.tup xs)))
theorem frz_new {P : Program} {w : World} {H : Hp} {h : Heap} {a : Addr} {xs : List V} {us : List Value} {ob : Obj} (e : h.get? a = some ob) (hc : ob.cls = .type "tuple") (n : Nat) (hd : ob.data = .seq us.toArray n) (hz : xs.length ≤ sizeLine) (r : Vals xs us) : ObjOk P w H h a (.frz ob (.tup xs)) :=
  ⟨e, hz, us, r, ⟨ob, e, hc, n, hd⟩⟩
theorem pe_tupP {X : Cx} {es : List Expr} {t : TA} {x1} {pos : Pos} (h : PA X es t) : PE X (.Tuple es x1 pos) (tTupP t) := by
  refine ⟨fun pins s σ H Q I hq => ?_⟩
  refine PySem.wpAny_Tuple_spliced (thn (h.run pos pins s σ H _ I hq) fun us s1 ⟨xs, H1, I1, r, z, q⟩ => ⟨by rw [← r.length]; exact z, ?_⟩)
  have hf : H1 s1.heap.objs.size = none := I1.hok.fresh (Nat.le_refl _)
  exact ⟨.ref s1.heap.objs.size, _, I1.laid (t' := s1.toks) (fun b u e => Heap.get?_push_of_some _ e) (Nat.le_refl _) (frz_new (Heap.get?_push_size _ rfl) rfl 0 rfl z r), rfl, q _ _ rfl hf⟩
theorem new_lst {K : PySem.W.Frag} {F H : Hp} {p : Addr} {xs : List V} {ds : List PyData} (g : Grw F H) (hp : H p = none) (h : DpAll K F xs ds) : Alc F H (upd F p (.lst xs)) (upd H p (.lst xs)) ∧ Dp K (upd F p (.lst xs)) (.ref p) (.list ds) :=
  have a := Alc.new (o := .lst xs) g hp trivial
  ⟨a, .lst (.inl (.inl upd_same)) (dps_ext a.ff h)⟩
theorem pd_tup {k : Nat} (h : PL X C Wx es ms) : PD X C Wx (.Tuple es k pos) (mL mkTup ms) := by
  refine pe_weak (pe_tupP h) fun σ H Q q => tE_use q fun δ w F S h => ?_
  refine tA_then S h fun ds δ1 w1 F1 H1 vs S1 g1 hvs h1 => ?_
  refine tAt_fin S1 h1 fun z e k => ?_
  unfold mkTup at e
  split at e
  · rename_i hl
    cases e
    refine ⟨by rw [dps_len hvs]; exact small_ok hl, fun p ob ho hp => ?_⟩
    obtain ⟨a, d⟩ := new_tup ho S1.sub hp hvs
    exact k _ _ _ a d
  · cases e
theorem pd_lst (h : PL X C Wx es ms) : PD X C Wx (.List es pos) (mL mkLst ms) := by
  refine pe_weak (pe_lst h) fun σ H Q q => tE_use q fun δ w F S h => ?_
  refine tA_then S h fun ds δ1 w1 F1 H1 vs S1 g1 hvs h1 => ?_
  refine tAt_fin S1 h1 fun z e k => ?_
  unfold mkLst at e
  split at e
  · rename_i hl
    cases e
    refine ⟨by rw [dps_len hvs]; exact small_ok hl, fun p hp => ?_⟩
    obtain ⟨a, d⟩ := new_lst S1.sub hp hvs
    exact k _ _ _ a d
  · cases e
theorem pd_callB {id : String} {r : List V → Hp → VK → Prop} {f : List PyData → Option PyData} (hc : CallR X (.builtin id) r) (hr : RDL C.K r f) (hm : X.mg x = none) (hv : bootBuiltins x = some (.builtin id)) (ha : PL X C Wx (e :: es) ms) (hg : Gl X x := by rfl) (hn : x ≠ "__name__" := by decide) (hdb : (x == ("__debug__" : Str)) = false := by decide)
    (he : starEach (e :: es) X.env = (false, eval e X.env) :: starEach es X.env := by rfl) (hpl : (backTo pos (starEach es X.env)).any (·.1) = false := by rfl) : PD X C Wx (.Call (.Name x p) (e :: es) [] pos) (mL f ms) := by
  refine pe_weak (pe_callB hc hg hm hv ha hn hdb he hpl) fun σ H Q q => tE_use q fun δ w F S h => ?_
  refine tA_then S h fun ds δ1 w1 F1 H1 vs S1 g1 hvs h1 => ?_
  exact tAt_fin S1 h1 fun z e k => hr F1 H1 vs ds z Q S1.sub hvs e k
theorem pd_callTy {T : String} {r : List V → Hp → VK → Prop} {f : List PyData → Option PyData} (hc : CallR X (.type T) r) (hr : RDL C.K r f) (hm : X.mg x = none) (hv : bootBuiltins x = some (.type T)) (ha : PL X C Wx (e :: es) ms) (hg : Gl X x := by rfl) (hn : x ≠ "__name__" := by decide) (hdb : (x == ("__debug__" : Str)) = false := by decide)
    (he : starEach (e :: es) X.env = (false, eval e X.env) :: starEach es X.env := by rfl) (hpl : (backTo pos (starEach es X.env)).any (·.1) = false := by rfl) : PD X C Wx (.Call (.Name x p) (e :: es) [] pos) (mL f ms) := by
  refine pe_weak (pe_callTy hc hg hm hv ha hn hdb he hpl) fun σ H Q q => tE_use q fun δ w F S h => ?_
  refine tA_then S h fun ds δ1 w1 F1 H1 vs S1 g1 hvs h1 => ?_
  exact tAt_fin S1 h1 fun z e k => hr F1 H1 vs ds z Q S1.sub hvs e k
/-- isinstance(x, T) -/
def misi (f : PyData → Option Bool) (a : M PyData) : M PyData := m1 (fun d => (f d).map PyData.bool) a
end
end RH

/-! The data layer, part 3: statements, targets, fresh lists. -/
namespace RH
open PySem PySem.Spec L2

inductive SR where
  | nx (δ : List Slot)
  | rt (d : PyData) (δ : List Slot)
  | ex (c : Nat) (δ : List Slot)
abbrev MS := List Slot → Option SR
def tStAt (C : Lx) (Wx : WX) (m : MS) (D : Ends) (δ : List Slot) (w : Wn) (F H : Hp) : Prop :=
  match m δ with
  | none => False
  | some (.nx δ') => ∀ σ' w' F' H', C.ok F' H' σ' δ' w' → Step w.has F H F' H' w'.has → D.nx σ' H'
  | some (.rt d δ') => ∀ v σ' w' F' H', C.ok F' H' σ' δ' w' → Step w.has F H F' H' w'.has → Dp C.K F' v d → D.rt v H'
  | some (.ex c δ') => ∀ σ' w' F' H', C.ok F' H' σ' δ' w' → Step w.has F H F' H' w'.has → Wx (.ref (C.Y.ex c)) none σ' H'
def tSt (C : Lx) (Wx : WX) (m : MS) : TS := fun D σ H => ∃ δ w F, C.ok F H σ δ w ∧ tStAt C Wx m D δ w F H
abbrev PSd (X : Cx) (C : Lx) (Wx : WX) (st : Stmt) (m : MS) : Prop := PS X st (tSt C Wx m)
abbrev PBd (X : Cx) (C : Lx) (Wx : WX) (st : List Stmt) (m : MS) : Prop := PSs X st (tSt C Wx m)

/-! ### the functions -/
def snext : MS := fun δ => some (.nx δ)
def sseq (a b : MS) : MS := fun δ => match a δ with
  | some (.nx δ') => b δ'
  | r => r
/-- an expression, then a statement's function of its value -/
def sbind {α : Type} (m : M α) (k : α → MS) : MS := fun δ => match m δ with
  | none => none
  | some (.ok a δ') => k a δ'
  | some (.ex c δ') => some (.ex c δ')
def sret (m : M PyData) : MS := sbind m fun d δ => some (.rt d δ)
def sretN : MS := fun δ => some (.rt .none δ)
def sexpr (m : M PyData) : MS := sbind m fun _ => snext
def sif (c : M Bool) (a b : MS) : MS := sbind c fun k => if k then a else b
def sraise (c : Nat) : MS := fun δ => some (.ex c δ)
/-- targets -/
inductive Tg where
  | nm (i : Nat)
  | tp (l : List Tg)
mutual
def bindT : Tg → PyData → List Slot → Option (List Slot)
  | .nm i, d, δ => some (δ.set i (.val d))
  | .tp l, .tuple ds, δ => bindTs l ds δ
  | .tp _, _, _ => none
def bindTs : List Tg → List PyData → List Slot → Option (List Slot)
  | [], [], δ => some δ
  | t :: ts, d :: ds, δ => match bindT t d δ with
    | some δ' => bindTs ts ds δ'
    | none => none
  | _, _, _ => none
end
def sasg (t : Tg) (m : M PyData) : MS := sbind m fun d δ => (bindT t d δ).map .nx
/-- a name gets an object that none else holds -/
def ssetO (i : Nat) (m : M (List PyData)) : MS := sbind m fun xs δ => some (.nx (δ.set i (.own (.b (.lst xs)))))

section
variable {C : Lx} {Wx : WX} {σ : St} {δ : List Slot} {w : Wn} {F H : Hp} {D : Ends}
theorem tSt_bind0 {α : Type} {m : M α} {k : α → MS} (h : tStAt C Wx (sbind m k) D δ w F H) : tAt C Wx m σ δ w F H fun a δ1 _ _ _ => tStAt C Wx (k a) D δ1 w F H := by
  simp only [tStAt, tAt, sbind] at h ⊢
  cases e : m δ with
  | none => rw [e] at h; exact h
  | some r =>
    rw [e] at h
    cases r with
    | ex c δ' => exact fun w' F' H' => h σ w' F' H'
    | ok a δ1 => exact fun _ _ _ _ _ => h
theorem tSt_bind {α : Type} {m : M α} {k : α → MS} (h : tStAt C Wx (sbind m k) D δ w F H) : tAt C Wx m σ δ w F H fun a δ1 w1 F1 H1 => tStAt C Wx (k a) D δ1 w1 F1 H1 := by
  simp only [tStAt, tAt, sbind] at h ⊢
  cases e : m δ with
  | none => rw [e] at h; exact h
  | some r =>
    rw [e] at h
    cases r with
    | ex c δ' => exact fun w' F' H' => h σ w' F' H'
    | ok a δ1 =>
      intro w1 F1 H1 s1 g1
      dsimp only at h ⊢
      cases e2 : k a δ1 with
      | none => rw [e2] at h; exact h
      | some r2 =>
        rw [e2] at h
        cases r2 with
        | nx δ2 => exact fun σ2 w2 F2 H2 s2 g2 => h σ2 w2 F2 H2 s2 (g1.trans g2)
        | rt d δ2 => exact fun v σ2 w2 F2 H2 s2 g2 => h v σ2 w2 F2 H2 s2 (g1.trans g2)
        | ex c δ2 => exact fun σ2 w2 F2 H2 s2 g2 => h σ2 w2 F2 H2 s2 (g1.trans g2)
theorem tSt_then {m : M PyData} {k : PyData → MS} {R : VK} (S : C.ok F H σ δ w) (h : tStAt C Wx (sbind m k) D δ w F H)
    (q : ∀ d δ1 w1 F1 H1 v, C.ok F1 H1 σ δ1 w1 → Step w.has F H F1 H1 w1.has → Dp C.K F1 v d → tStAt C Wx (k d) D δ1 w1 F1 H1 → R v H1) : tE C Wx m σ H R :=
  ⟨δ, w, F, S, tAt_mono (tSt_bind h) fun d δ1 w1 F1 H1 s1 g1 h1 v hv => q d δ1 w1 F1 H1 v s1 g1 hv h1⟩
theorem tSt_thenB {m : M Bool} {k : Bool → MS} {R : Bool → Hp → Prop} (S : C.ok F H σ δ w) (h : tStAt C Wx (sbind m k) D δ w F H)
    (q : ∀ d δ1 w1 F1 H1, C.ok F1 H1 σ δ1 w1 → Step w.has F H F1 H1 w1.has → tStAt C Wx (k d) D δ1 w1 F1 H1 → R d H1) : tT C Wx m σ H R :=
  ⟨δ, w, F, S, tAt_mono (tSt_bind h) fun d δ1 w1 F1 H1 s1 g1 h1 => q d δ1 w1 F1 H1 s1 g1 h1⟩
theorem tSt_of {m : MS} (S : C.ok F H σ δ w) (h : tStAt C Wx m D δ w F H) : tSt C Wx m D σ H := ⟨δ, w, F, S, h⟩
/-- from a state behind a step -/
theorem tStAt_step {m : MS} {w0 : Wn} {F0 H0 : Hp} (g : Step w0.has F0 H0 F H w.has) (h : tStAt C Wx m D δ w0 F0 H0) : tStAt C Wx m D δ w F H := by
  simp only [tStAt] at h ⊢
  cases e : m δ with
  | none => rw [e] at h; exact h
  | some r =>
    rw [e] at h
    cases r with
    | nx δ2 => exact fun σ2 w2 F2 H2 s2 g2 => h σ2 w2 F2 H2 s2 (g.trans g2)
    | rt d δ2 => exact fun v σ2 w2 F2 H2 s2 g2 => h v σ2 w2 F2 H2 s2 (g.trans g2)
    | ex c δ2 => exact fun σ2 w2 F2 H2 s2 g2 => h σ2 w2 F2 H2 s2 (g.trans g2)
end

section
variable {X : Cx} {C : Lx} {Wx : WX} {st : Stmt} {rest sa sb : List Stmt} {a b : MS} {e c : Expr} {m : M PyData} {mc : M Bool} {pos : Pos}
theorem pb_nil : PBd X C Wx [] snext := by
  refine pss_weak pss_nil fun D σ H q => ?_
  obtain ⟨δ, w, F, S, h⟩ := q
  exact h σ w F H S S.here
theorem pb_cons (h1 : PSd X C Wx st a) (h2 : PBd X C Wx rest b) : PBd X C Wx (st :: rest) (sseq a b) := by
  refine pss_weak (pss_cons h1 h2) fun D σ H q => ?_
  obtain ⟨δ, w, F, S, h⟩ := q
  refine ⟨δ, w, F, S, ?_⟩
  simp only [tStAt, sseq] at h ⊢
  cases e : a δ with
  | none => rw [e] at h; exact h
  | some r =>
    rw [e] at h
    cases r with
    | rt d δ1 => exact h
    | ex c δ1 => exact h
    | nx δ1 =>
      intro σ1 w1 F1 H1 s1 g1
      refine ⟨δ1, w1, F1, s1, ?_⟩
      dsimp only at h
      simp only [tStAt]
      cases e2 : b δ1 with
      | none => rw [e2] at h; exact h
      | some r2 =>
        rw [e2] at h
        cases r2 with
        | nx δ2 => exact fun σ2 w2 F2 H2 s2 g2 => h σ2 w2 F2 H2 s2 (g1.trans g2)
        | rt d δ2 => exact fun v σ2 w2 F2 H2 s2 g2 => h v σ2 w2 F2 H2 s2 (g1.trans g2)
        | ex c δ2 => exact fun σ2 w2 F2 H2 s2 g2 => h σ2 w2 F2 H2 s2 (g1.trans g2)
theorem pb_one (h1 : PSd X C Wx st a) : PBd X C Wx [st] a := pss_one h1
theorem pd_pass : PSd X C Wx (.Pass pos) snext := by
  refine ps_weak ps_pass fun D σ H q => ?_
  obtain ⟨δ, w, F, S, h⟩ := q
  exact h σ w F H S S.here
theorem pd_expr (he : PD X C Wx e m) (hs : swapsWith e none pos.line X.env = pure false := by rfl) : PSd X C Wx (.Expr e pos) (sexpr m) := by
  refine ps_weak (ps_expr he hs) fun D σ H q => ?_
  obtain ⟨δ, w, F, S, h⟩ := q
  refine tSt_then S h fun d δ1 w1 F1 H1 v S1 g1 hv h1 => ?_
  exact h1 σ w1 F1 H1 S1 S1.here
theorem pd_ret (he : PD X C Wx e m) : PSd X C Wx (.Return (some e) pos) (sret m) := by
  refine ps_weak (ps_ret he) fun D σ H q => ?_
  obtain ⟨δ, w, F, S, h⟩ := q
  refine tSt_then S h fun d δ1 w1 F1 H1 v S1 g1 hv h1 => ?_
  exact h1 v σ w1 F1 H1 S1 S1.here hv
theorem pd_retN : PSd X C Wx (.Return none pos) sretN := by
  refine ps_weak ps_retN fun D σ H q => ?_
  obtain ⟨δ, w, F, S, h⟩ := q
  exact h .non σ w F H S S.here .non
theorem pd_ifS (hc : PB X C Wx c mc) (ha : PBd X C Wx sa a) (hb : PBd X C Wx sb b) : PSd X C Wx (.If c sa sb pos) (sif mc a b) := by
  refine ps_weak (ps_if hc ha hb) fun D σ H q => ?_
  obtain ⟨δ, w, F, S, h⟩ := q
  refine tSt_thenB S h fun d δ1 w1 F1 H1 S1 g1 h1 => ?_
  cases d with
  | true =>
    rw [if_pos rfl] at h1 ⊢
    exact ⟨δ1, w1, F1, S1, h1⟩
  | false =>
    rw [if_neg Bool.false_ne_true] at h1 ⊢
    exact ⟨δ1, w1, F1, S1, h1⟩
/-- raise X('m') of an own class -/
theorem pd_raise {x z : Str} {j k : Nat} {p p2 p3 : Pos} {bmB : List Value} {B newId initId : String} (hc : X.calm = true) (tk : L2N.Takes X Wx) (FB : ExcBaseFacts B newId initId bmB) (q : PySem.W.excIn X.K (C.Y.ex k) bmB newId = true) (gC : X.mg x = some (.ref (C.Y.ex k))) (kC : PySem.W.keepIn X.K (.ref (C.Y.ex k)) = true)
    (r : Raises X (.ref (C.Y.ex k))) (hg : Gl X x := by rfl) (hdb : (x == ("__debug__" : Str)) = false := by decide) : PSd X C Wx (.Raise (some (.Call (.Name x p) [.Constant (.str z) j p2] [] p3)) none pos) (sraise k) := by
  refine ps_weak (L2N.ps_raise hc tk (L2N.pmk_own FB q gC kC r hg hdb)) fun D σ H q => ?_
  obtain ⟨δ, w, F, S, h⟩ := q
  exact h σ w F H S S.here
end

/-! ### slots told anew -/
section
variable {Y : Lay} {K : PySem.W.Frag} {vs0 : List V} {F H : Hp} {σ : St} {δ : List Slot} {w : Wn}
/-- slot i holds a value -/
theorem SOk.setV (S : SOk Y K vs0 F H σ δ w) {v : V} {d : PyData} (i : Nat) (h : Dp K F v d) : SOk Y K vs0 F H (σ.set i (some v)) (δ.set i (.val d)) (w.off i) where
  len := by rw [List.length_set, List.length_set]; exact S.len
  sub := S.sub
  tab := S.tab
  ntb := S.ntb
  at_ := fun j s' e => by
    by_cases hj : j = i
    · subst hj
      by_cases hl : j < δ.length
      · rw [List.getElem?_set_self hl] at e
        cases e
        rw [Wn.off_self, List.getElem?_set_self (by rw [← S.len]; exact hl)]
        exact .val h
      · rw [List.getElem?_eq_none (by rw [List.length_set]; omega)] at e
        cases e
    · rw [List.getElem?_set_ne (Ne.symm hj)] at e
      rw [Wn.off_ne hj, List.getElem?_set_ne (Ne.symm hj)]
      exact S.at_ j s' e
  emp := fun j e => by
    by_cases hj : j = i
    · subst hj
      exact Wn.off_self
    · rw [List.getElem?_set_ne (Ne.symm hj)] at e
      rw [Wn.off_ne hj]
      exact S.emp j e
  nof := fun j p h => S.nof j p (Wn.off_sub h)
  dis := fun j k p h1 h2 => S.dis j k p (Wn.off_sub h1) (Wn.off_sub h2)
  par := fun j v o h1 h2 => by
    by_cases hj : j = i
    · subst hj
      by_cases hl : j < δ.length
      · rw [List.getElem?_set_self hl] at h2
        cases h2
      · rw [List.getElem?_eq_none (by rw [List.length_set]; omega)] at h2
        cases h2
    · rw [List.getElem?_set_ne (Ne.symm hj)] at h2
      rw [List.getElem?_set_ne (Ne.symm hj)]
      exact S.par j v o h1 h2
theorem step_off {i : Nat} : Step w.has F H F H (w.off i).has := Step.refl fun _ h => Wn.off_has h
/-- w with the objects q at i -/
def Wn.put (w : Wn) (i : Nat) (q : List Addr) : Wn := fun j => if j = i then q else w j
theorem Wn.put_self {w : Wn} {i : Nat} {q : List Addr} : w.put i q i = q := if_pos rfl
theorem Wn.put_ne {w : Wn} {i j : Nat} {q : List Addr} (h : j ≠ i) : w.put i q j = w j := if_neg h
theorem Wn.put_has {w : Wn} {i : Nat} {q : List Addr} {p : Addr} (h : (w.put i q).has p) : p ∈ q ∨ w.has p := by
  obtain ⟨j, hj⟩ := h
  unfold Wn.put at hj
  split at hj
  · exact .inl hj
  · exact .inr ⟨j, hj⟩
/-- slot i holds an object that none else holds -/
theorem SOk.setO (S : SOk Y K vs0 F H σ δ w) {p : Addr} {o : Own} {q : List Addr} (i : Nat) (hi : vs0.length ≤ i) (hl : i < δ.length) (h : OwnOk Y K F H p o q) (nF : ∀ a ∈ q, F a = none) (nw : ∀ a ∈ q, ¬ w.has a) :
    SOk Y K vs0 F H (σ.set i (some (.ref p))) (δ.set i (.own o)) (w.put i q) where
  len := by rw [List.length_set, List.length_set]; exact S.len
  sub := S.sub
  tab := S.tab
  ntb := S.ntb
  at_ := fun j s' e => by
    by_cases hj : j = i
    · subst hj
      rw [List.getElem?_set_self hl] at e
      cases e
      rw [Wn.put_self, List.getElem?_set_self (by rw [← S.len]; exact hl)]
      exact .own h
    · rw [List.getElem?_set_ne (Ne.symm hj)] at e
      rw [Wn.put_ne hj, List.getElem?_set_ne (Ne.symm hj)]
      exact S.at_ j s' e
  emp := fun j e => by
    by_cases hj : j = i
    · subst hj
      rw [List.getElem?_set_self hl] at e
      cases e
    · rw [List.getElem?_set_ne (Ne.symm hj)] at e
      rw [Wn.put_ne hj]
      exact S.emp j e
  nof := fun j a ha => by
    by_cases hj : j = i
    · subst hj
      rw [Wn.put_self] at ha
      exact nF a ha
    · rw [Wn.put_ne hj] at ha
      exact S.nof j a ha
  dis := fun j k a h1 h2 => by
    by_cases hj : j = i
    · subst hj
      rw [Wn.put_self] at h1
      by_cases hk : k = j
      · exact hk.symm
      · rw [Wn.put_ne hk] at h2
        exact absurd ⟨k, h2⟩ (nw a h1)
    · rw [Wn.put_ne hj] at h1
      by_cases hk : k = i
      · subst hk
        rw [Wn.put_self] at h2
        exact absurd ⟨j, h1⟩ (nw a h2)
      · rw [Wn.put_ne hk] at h2
        exact S.dis j k a h1 h2
  par := fun j v o' h1 h2 => by
    by_cases hj : j = i
    · subst hj
      rw [List.getElem?_eq_none hi] at h1
      cases h1
    · rw [List.getElem?_set_ne (Ne.symm hj)] at h2
      rw [List.getElem?_set_ne (Ne.symm hj)]
      exact S.par j v o' h1 h2
end

/-! ### targets -/
mutual
def Tg.slots : Tg → List Nat
  | .nm i => [i]
  | .tp l => Tg.slotsL l
def Tg.slotsL : List Tg → List Nat
  | [] => []
  | t :: ts => t.slots ++ Tg.slotsL ts
end
/-- but for the slots l alike -/
def Wip (l : List Nat) (σ σ' : St) : Prop := ∀ vs, (∀ j ∈ l, j ∈ vs) → wipe σ' vs = wipe σ vs
theorem wipe_set {σ : St} {i : Nat} {x : Option V} : ∀ {vs : List Nat}, i ∈ vs → wipe (σ.set i x) vs = wipe σ vs
  | [], h => by simp at h
  | v :: vs, h => by
    unfold wipe
    by_cases hm : i ∈ vs
    · rw [wipe_set hm]
    · have hv : i = v := (List.mem_cons.mp h).resolve_right hm
      subst hv
      have e : ∀ (l : List Nat), i ∉ l → wipe (σ.set i x) l = (wipe σ l).set i x := by
        intro l
        induction l with
        | nil => intro _; rfl
        | cons a r ih =>
          intro hn
          have ha : a ≠ i := fun z => hn (by rw [z]; exact List.mem_cons_self)
          show (wipe (σ.set i x) r).set a none = ((wipe σ r).set a none).set i x
          rw [ih fun z => hn (List.mem_cons_of_mem _ z), List.set_comm _ _ ha]
      rw [e vs hm, List.set_set]
theorem Wip.refl (l : List Nat) (σ : St) : Wip l σ σ := fun _ _ => rfl
theorem Wip.trans {l l' : List Nat} {σ σ1 σ2 : St} (a : Wip l σ σ1) (b : Wip l' σ1 σ2) : Wip (l ++ l') σ σ2 := fun vs h => (b vs fun j hj => h j (List.mem_append_right _ hj)).trans (a vs fun j hj => h j (List.mem_append_left _ hj))
/-- the reading of a target -/
def tG (C : Lx) (t : Tg) : TG := fun v σ H Q => ∃ δ w F d δ', C.ok F H σ δ w ∧ Dp C.K F v d ∧ bindT t d δ = some δ' ∧ ∀ σ' w', C.ok F H σ' δ' w' → (∀ p, w'.has p → w.has p) → Wip t.slots σ σ' → Q σ' H
def tGs (C : Lx) (ts : List Tg) : TGs := fun vs σ H Q => ∃ δ w F ds δ', C.ok F H σ δ w ∧ DpAll C.K F vs ds ∧ bindTs ts ds δ = some δ' ∧ ∀ σ' w', C.ok F H σ' δ' w' → (∀ p, w'.has p → w.has p) → Wip (Tg.slotsL ts) σ σ' → Q σ' H
theorem pg_weak {X : Cx} {e : Expr} {t t' : TG} (h : PG X e t) (i : ∀ v σ H Q, t' v σ H Q → t v σ H Q) : PG X e t' := ⟨fun pins s σ H v u Q I r q => h.run pins s σ H v u Q I r (i v σ H Q q)⟩
theorem pgs_weak {X : Cx} {e : List Expr} {t t' : TGs} (h : PGs X e t) (i : ∀ v σ H Q, t' v σ H Q → t v σ H Q) : PGs X e t' := ⟨fun pins s σ H v u Q I r q => h.run pins s σ H v u Q I r (i v σ H Q q)⟩
section
variable {X : Cx} {C : Lx} {Wx : WX} {pos p : Pos} {e : Expr} {es : List Expr} {m : M PyData} {t : Tg} {ts : List Tg}
theorem pg_nm {x : Str} (i : Nat) (hN : X.N.Nodup) (hi : X.N[i]? = some x := by rfl) (hx : Loc X.env.scope x := by first | exact Or.inl rfl | exact Or.inr rfl) (hf : X.fn x = true ∨ X.env.scope.names.lookup x = some .local := by first | exact .inl rfl | exact .inr rfl) : PG X (.Name x pos) (tG C (.nm i)) := by
  refine pg_weak (pg_name hN hi hx hf) fun v σ H Q q => ?_
  obtain ⟨δ, w, F, d, δ', S, hv, hb, k⟩ := q
  simp only [bindT] at hb
  cases hb
  exact k _ _ (S.setV i hv) (fun _ h => Wn.off_has h) fun vs h => wipe_set (h i List.mem_cons_self)
theorem pgs_nl : PGs X [] (tGs C []) := by
  refine pgs_weak pgs_nil fun v σ H Q q => ?_
  obtain ⟨δ, w, F, ds, δ', S, hv, hb, k⟩ := q
  cases hv with
  | nil =>
    simp only [bindTs] at hb
    cases hb
    exact ⟨rfl, k _ _ S (fun _ h => h) (Wip.refl _ _)⟩
  | cons => simp [bindTs] at hb
theorem pgs_cn (h1 : PG X e (tG C t)) (h2 : PGs X es (tGs C ts)) (hs : (assignEach (e :: es) X.env).map (·.2) = assign e X.env :: (assignEach es X.env).map (·.2) := by rfl) : PGs X (e :: es) (tGs C (t :: ts)) := by
  refine pgs_weak (pgs_cons h1 h2 hs) fun v σ H Q q => ?_
  obtain ⟨δ, w, F, ds, δ', S, hv, hb, k⟩ := q
  cases hv with
  | nil => simp [bindTs] at hb
  | cons hv hvs =>
    simp only [bindTs] at hb
    split at hb
    · rename_i δ1 e1
      refine ⟨_, _, rfl, δ, w, F, _, δ1, S, hv, e1, fun σ1 w1 S1 g1 z1 => ?_⟩
      exact ⟨δ1, w1, F, _, δ', S1, hvs, hb, fun σ' w' S' g' z' => k σ' w' S' (fun p hp => g1 p (g' p hp)) (z1.trans z')⟩
    · cases hb
theorem bindTs_len : ∀ {ts : List Tg} {ds : List PyData} {δ δ' : List Slot}, bindTs ts ds δ = some δ' → ds.length = ts.length
  | [], [], _, _, _ => rfl
  | [], _ :: _, _, _, h => by simp [bindTs] at h
  | _ :: _, [], _, _, h => by simp [bindTs] at h
  | t :: ts, d :: ds, δ, δ', h => by
    simp only [bindTs] at h
    split at h
    · rw [List.length_cons, List.length_cons, bindTs_len h]
    · cases h
theorem pg_tp {k : Nat} (hc : X.calm = true) (hK : C.K = X.K) (h : PGs X es (tGs C ts)) (hn : (assignEach es X.env).length = ts.length := by rfl) (hst : (assignEach es X.env).findIdx? (·.1) = none := by rfl) : PG X (.Tuple es k pos) (tG C (.tp ts)) := by
  refine pg_weak (pg_tup hc h hn hst) fun v σ H Q q => ?_
  obtain ⟨δ, w, F, d, δ', S, hv, hb, k⟩ := q
  cases d with
  | tuple ds =>
    simp only [bindT] at hb
    cases hv with
    | tup hs hd =>
      rw [hK] at hs
      refine ⟨_, _, rfl, sqt_ext S.sub hs, ?_, δ, w, F, ds, δ', S, hd, hb, k⟩
      rw [dps_len hd]
      exact bindTs_len hb
  | _ => simp [bindT] at hb
/-- target = e -/
theorem pd_asg {tg : Expr} (he : PD X C Wx e m) (hg : PG X tg (tG C t)) (hs : swapsWithSole [tg] e pos.line X.env = pure false := by rfl) (hw : swappedStores [tg] e X.env = pure none := by rfl)
    (h1 : (assignEach [tg] X.env).map (·.2) = [assign tg X.env] := by rfl) : PSd X C Wx (.Assign [tg] e pos) (sasg t m) := by
  refine ps_weak (ps_asg he hg hs hw h1) fun D σ H q => ?_
  obtain ⟨δ, w, F, S, h⟩ := q
  refine tSt_then S h fun d δ1 w1 F1 H1 v S1 g1 hv h1 => ?_
  simp only [tStAt] at h1
  cases eb : bindT t d δ1 with
  | none => rw [eb] at h1; exact False.elim h1
  | some δ2 =>
    rw [eb] at h1
    exact ⟨δ1, w1, F1, d, δ2, S1, hv, eb, fun σ' w' S' g' _ => h1 σ' w' F1 H1 S' (Step.refl g')⟩
theorem pd_set {x : Str} {p' : Pos} (i : Nat) (hN : X.N.Nodup) (he : PD X C Wx e m) (hi : X.N[i]? = some x := by rfl) (hx : Loc X.env.scope x := by first | exact Or.inl rfl | exact Or.inr rfl) (hs : swapsWith e (some (.Name x p')) pos.line X.env = pure false := by rfl)
    (hf : X.fn x = true ∨ X.env.scope.names.lookup x = some .local := by first | exact .inl rfl | exact .inr rfl) : PSd X C Wx (.Assign [.Name x p'] e pos) (sasg (.nm i) m) := by
  refine ps_weak (ps_set hN hi hx he hs hf) fun D σ H q => ?_
  obtain ⟨δ, w, F, S, h⟩ := q
  refine tSt_then S h fun d δ1 w1 F1 H1 v S1 g1 hv h1 => ?_
  exact h1 _ _ F1 H1 (S1.setV i hv) step_off

/-! ### fresh lists -/
/-- e makes a new list, of which none else knows: its items -/
def tO (C : Lx) (Wx : WX) (m : M (List PyData)) : TE := fun σ H Q => ∃ δ w F, C.ok F H σ δ w ∧ tAt C Wx m σ δ w F H fun xs _ w' F' H' => ∀ p vs, H p = none → H' p = some (.lst vs) → F' p = none → ¬ w'.has p → DpAll C.K F' vs xs → Q (.ref p) H'
abbrev PO (X : Cx) (C : Lx) (Wx : WX) (e : Expr) (m : M (List PyData)) : Prop := PE X e (tO C Wx m)
def mfrz (m : M (List PyData)) : M PyData := mbind m fun xs => mpure (.list xs)
theorem SOk.frzP {Y : Lay} {K : PySem.W.Frag} {vs0 : List V} {F H : Hp} {σ : St} {δ : List Slot} {w : Wn} (S : SOk Y K vs0 F H σ δ w) {p : Addr} {vs : List V} (hp : H p = some (.lst vs)) (nF : F p = none) (nw : ¬ w.has p) : SOk Y K vs0 (upd F p (.lst vs)) H σ δ w where
  len := S.len
  sub := fun b o q => by
    by_cases hb : b = p
    · subst hb
      rw [upd_same] at q
      rw [hp]
      exact q
    · rw [upd_ne hb] at q
      exact S.sub b o q
  tab := S.tab
  ntb := fun b ps q => by
    by_cases hb : b = p
    · subst hb
      rw [upd_same] at q
      rw [← Option.some.inj q]
      exact trivial
    · rw [upd_ne hb] at q
      exact S.ntb b ps q
  at_ := fun i s e => slot_ext (Grw.new nF) (fun _ _ _ h _ => h) (S.at_ i s e)
  emp := S.emp
  nof := fun i a h => by
    rw [upd_ne (fun z => nw ⟨i, by rw [← z]; exact h⟩)]
    exact S.nof i a h
  dis := S.dis
  par := S.par
theorem Step.frz {W W' : Addr → Prop} {F H F' H' : Hp} (g : Step W F H F' H' W') {p : Addr} {ho : HO} (h0 : H p = none) (nF : F' p = none) : Step W F H (upd F' p ho) H' W' :=
  ⟨g.ff.trans (Grw.new nF), g.keep, g.live, fun b h1 h2 h3 => by
    rw [upd_ne (fun z => h1 (by rw [z]; exact h0))]
    exact g.prot b h1 h2 h3, g.ownd⟩
theorem Step.put {W : Addr → Prop} {w : Wn} {F H F' H' : Hp} (g : Step W F H F' H' w.has) {p : Addr} {i : Nat} (h0 : H p = none) : Step W F H F' H' (w.put i [p]).has :=
  ⟨g.ff, g.keep, g.live, g.prot, fun b h => by
    rcases Wn.put_has h with h | h
    · rw [List.mem_singleton.mp h]
      exact .inr h0
    · exact g.ownd b h⟩
theorem pd_of {mo : M (List PyData)} (h : PO X C Wx e mo) : PD X C Wx e (mfrz mo) := by
  refine pe_weak h fun σ H Q q => ?_
  obtain ⟨δ, w, F, S, h⟩ := q
  refine ⟨δ, w, F, S, tAt_mono (tAt_bind0 h) fun xs δ1 w1 F1 H1 S1 g1 h1 p vs h0 hp nF nw hv => ?_⟩
  exact h1 w1 (upd F1 p (.lst vs)) H1 (S1.frzP hp nF nw) (g1.frz h0 nF) (.ref p) (.lst (.inl (.inl upd_same)) (dps_ext (Grw.new nF) hv))
/-- name = a new list that none else knows -/
theorem pd_setO {x : Str} {p' : Pos} {mo : M (List PyData)} (i : Nat) (hN : X.N.Nodup) (he : PO X C Wx e mo) (hlo : C.vs0.length ≤ i) (hi : X.N[i]? = some x := by rfl) (hx : Loc X.env.scope x := by first | exact Or.inl rfl | exact Or.inr rfl) (hs : swapsWith e (some (.Name x p')) pos.line X.env = pure false := by rfl)
    (hf : X.fn x = true ∨ X.env.scope.names.lookup x = some .local := by first | exact .inl rfl | exact .inr rfl) : PSd X C Wx (.Assign [.Name x p'] e pos) (ssetO i mo) := by
  have h0 := ps_set hN hi hx he hs hf
  refine ⟨fun pins s σ H D I q => h0.run pins s σ H D I ?_⟩
  obtain ⟨δ, w, F, S, h⟩ := q
  refine ⟨δ, w, F, S, tAt_mono (tSt_bind0 h) fun xs δ1 w1 F1 H1 S1 g1 h1 p vs h0 hp nF nw hv => ?_⟩
  have hl : i < δ1.length := by
    rw [S1.len, I.len]
    exact (List.getElem?_eq_some_iff.mp hi).1
  exact h1 _ _ F1 H1 (S1.setO i hlo hl (.b ⟨_, hp, vs, rfl, hv⟩) (fun a ha => by rw [List.mem_singleton.mp ha]; exact nF) (fun a ha => by rw [List.mem_singleton.mp ha]; exact nw)) (g1.put h0)
end
end RH

/-! The data layer, part 4: what is walked: lists, tuples, texts, their enumerate and zip. -/
namespace RH
open PySem PySem.Spec L2
open AutoSeq1 (wpAny_loadPart')

/-! ### enumerate(v) begins -/
theorem meets_enum1 {v : Value} {o : Obj} {H : Heap → Prop} (B : Begins v o H) :
    Meets (Builtin.«enumerate.__new__» ⟨[.type "enumerate", v], []⟩) (fun _ R s => H s.heap ∧
      R (.ok (.ret (.ref (s.heap.push o).objs.size))) { s with heap := (s.heap.push o).push { cls := .type "enumerate", data := .fields #[.none, .bool false, .ref s.heap.objs.size, rawInt 0, .none, .none] } }) :=
  .of_wp fun prog w A R s h => by
    obtain ⟨hp, g, d, tk, os⟩ := s; obtain ⟨h1, h⟩ := h
    have hsub := sub_enumerate
    have q1 : ∀ {A' : Around} {E : Value → Shared → Prop} {Q : Value → Shared → Prop}, Q (.ref hp.objs.size) ⟨hp.push o, g, d, tk, os⟩ → wpAny (model prog w) A' (pyIter v) Q E ⟨hp, g, d, tk, os⟩ :=
      fun q => B.iter prog w _ _ ⟨hp, g, d, tk, os⟩ _ h1 q
    wp_walk using q1
    refine wpAny_stack_any fun st => wpAny_pure ?_
    split
    · rename_i c _ _ _ _ _
      cases (c == Value.type "enumerate")
      · wp_walk using q1
        exact ⟨_, rfl, h⟩
      · wp_walk using q1
        exact ⟨_, rfl, h⟩
    · wp_walk using q1
      exact ⟨_, rfl, h⟩
theorem enum_begins1 {prog : Program} {w : World} {A : Around} {E : Value → Shared → Prop} {s : Shared} {v : Value} {o : Obj} {H : Heap → Prop} {Q : Value → Shared → Prop} (B : Begins v o H) (h1 : H s.heap)
    (h : ∀ h', IsEnum h' (s.heap.objs.size + 1) s.heap.objs.size 0 .none → h'.get? s.heap.objs.size = some o → h'.objs.size = s.heap.objs.size + 2 →
      (∀ b o, s.heap.get? b = some o → h'.get? b = some o) → Q (.ref (s.heap.objs.size + 1)) { s with heap := h' }) :
    wpAny (model prog w) A (call (.type "enumerate") [v]) Q E s := by
  refine callType_new F.called_enumerate (by decide) (F.typeCall_enumerate_1 _) (F.newCall_enumerate_1 _) (fun obj => F.args_object_init_2 obj _) F.entry_enumerate_new
    (meets_enum1 B) ⟨h1, ?_⟩
  have hz : (s.heap.push o).objs.size = s.heap.objs.size + 1 := Heap.size_push ..
  show _ ∧ _
  rw [hz]
  have he : IsEnum ((s.heap.push o).push { cls := .type "enumerate", data := .fields #[.none, .bool false, .ref s.heap.objs.size, rawInt 0, .none, .none] }) (s.heap.objs.size + 1) s.heap.objs.size 0 .none := by
    have := Heap.get?_push_size (s.heap.push o) (o := { cls := .type "enumerate", data := .fields #[.none, .bool false, .ref s.heap.objs.size, rawInt 0, .none, .none] }) rfl
    rw [hz] at this; exact this
  refine ⟨⟨_, he, rfl⟩, h _ he (Heap.get?_push_of_some _ (Heap.get?_push_size _ B.free)) (by rw [Heap.size_push, hz]) fun b o x => Heap.get?_push_of_some _ (Heap.get?_push_of_some _ x)⟩

/-! ### sources -/
inductive Src where
  | lst (a : Addr)
  | tup (a : Addr)
  | str (x : Str) (t : Tok)
def Src.val : Src → Value
  | .lst a => .ref a
  | .tup a => .ref a
  | .str x t => .str x t
def Src.obj : Src → Obj
  | .lst a => { cls := .type "list_iterator", data := .fields #[.ref a, .int 0 0] }
  | .tup a => { cls := .type "tuple_iterator", data := .fields #[.ref a, .int 0 0] }
  | .str x t => { cls := .type (strIterType x), data := .fields #[.str x t, .int 0 0] }
def Src.st (it : Addr) (i : Nat) (h : Heap) : Src → Prop
  | .lst a => h.IsListIter it a i
  | .tup a => h.IsTupleIter it a i
  | .str x t => h.IsStrIter it (strIterType x) x t i
def signV (x : Str) : List V := x.cps.toList.map fun c => .str ⟨#[c]⟩
def Src.has (K : PySem.W.Frag) (H : Hp) (xs : List V) : Src → Prop
  | .lst a => SqL K H a xs
  | .tup a => SqT K H a xs
  | .str x _ => xs = signV x
/-- it is no object of the source -/
def Src.off (b : Addr) : Src → Prop
  | .lst a => a ≠ b
  | .tup a => a ≠ b
  | .str _ _ => True
def Src.fp (it : Addr) : Src → List Addr
  | .lst a => [it, a]
  | .tup a => [it, a]
  | .str _ _ => [it]
section
variable {X : Cx} {pins : List (Addr × Obj)} {σ : St} {H : Hp} {s : Shared} {k : Src} {xs : List V}
theorem Src.keep {h h' : Heap} {it : Addr} {i : Nat} (st : k.st it i h) (q : ∀ o, h.get? it = some o → h'.get? it = some o) : k.st it i h' := by
  cases k with
  | lst a => exact Heap.IsListIter.at st q
  | tup a => exact Heap.IsTupleIter.at st q
  | str x t => exact let ⟨o, ho, r⟩ := st; ⟨o, q o ho, r⟩
theorem Src.there {h : Heap} {it : Addr} {i : Nat} (st : k.st it i h) : ∃ o, h.get? it = some o ∧ ∀ v, o.data ≠ .cell v := by
  cases k with
  | lst a =>
    obtain ⟨o, e, c, d⟩ := st
    exact ⟨o, e, fun v z => by rw [d] at z; cases z⟩
  | tup a =>
    obtain ⟨o, e, c, d⟩ := st
    exact ⟨o, e, fun v z => by rw [d] at z; cases z⟩
  | str x t =>
    obtain ⟨o, e, c, d⟩ := st
    exact ⟨o, e, fun v z => by rw [d] at z; cases z⟩
theorem Src.start {h : Heap} {it : Addr} (e : h.get? it = some k.obj) : k.st it 0 h := by
  cases k with
  | lst a => exact ⟨_, e, rfl, rfl⟩
  | tup a => exact ⟨_, e, rfl, rfl⟩
  | str x t => exact ⟨_, e, rfl, rfl⟩
theorem Src.apart (I : Inv X pins σ H s) (hk : k.has X.K H xs) {b : Addr} (f : FpOk X pins H b) : k.off b := by
  have kk : ∀ {a : Addr} {o : Obj}, X.K.lookup a = some o → a ≠ b := fun {a o} e z => by
    have eb := I.ok.mod.kin a o e
    rw [z] at eb
    rcases f.2.2.2.1 with q | q
    · exact I.ok.noex _ _ eb q
    · exact absurd (Nat.lt_of_lt_of_le (Heap.lt_size eb) I.ok.bsz) (Nat.not_lt.mpr q)
  cases k with
  | lst a =>
    rcases hk with hk | ⟨o, its, n, e, _⟩
    · rcases hk with hk | ⟨o, hk⟩
      · exact ne_of_none hk f.1
      · exact ne_of_none hk f.1
    · exact kk e
  | tup a =>
    rcases hk with hk | ⟨o, its, n, e, _⟩
    · rcases hk with hk | ⟨o, hk⟩
      · exact ne_of_none hk f.1
      · exact ne_of_none hk f.1
    · exact kk e
  | str x t => exact True.intro
theorem Src.notin {it b : Addr} (h : k.off b) (n : b ≠ it) : b ∉ k.fp it := by
  cases k with
  | lst a =>
    intro z
    rcases List.mem_cons.mp z with z | z
    · exact n z
    · exact h (List.mem_singleton.mp z).symm
  | tup a =>
    intro z
    rcases List.mem_cons.mp z with z | z
    · exact n z
    · exact h (List.mem_singleton.mp z).symm
  | str x t =>
    intro z
    exact n (List.mem_singleton.mp z)
theorem Src.mem {it : Addr} : it ∈ k.fp it := by cases k <;> simp [Src.fp]
/-- what the iterator draws -/
theorem Src.draws (I : Inv X pins σ H s) (hk : k.has X.K H xs) {it : Addr} (ho : k.off it) {A : Around} (hh : A.handled = none) {i : Nat} (st : k.st it i s.heap) :
    ∃ P St, Draws X.prog X.w A it (k.fp it) xs.length P St ∧ St i s.heap ∧ (∀ j u, P j u → ∃ v, xs[j]? = some v ∧ RelV v u) ∧ ∀ j h, St j h → k.st it j h := by
  cases k with
  | lst a =>
    obtain ⟨its, rv, p, hz⟩ := I.list hk
    have D := Draws.list (prog := X.prog) (w := X.w) hh it a ho its.toArray
    have e : its.toArray.size = xs.length := by rw [List.size_toArray]; exact rv.length.symm
    rw [e] at D
    refine ⟨_, _, D, ⟨st, p.isList⟩, fun j u h => ?_, fun j h z => z.1⟩
    have h' : its[j]? = some u := by simpa using h
    have hl : j < its.length := (List.getElem?_eq_some_iff.mp h').1
    have hx : xs[j]? = some xs[j] := List.getElem?_eq_getElem (by rw [rv.length]; exact hl)
    obtain ⟨u', hu, ru⟩ := rv.get hx
    rw [h'] at hu
    cases hu
    exact ⟨_, hx, ru⟩
  | tup a =>
    obtain ⟨its, rv, p, hz⟩ := I.tuple hk
    have D := Draws.tuple (prog := X.prog) (w := X.w) hh it a ho its.toArray
    have e : its.toArray.size = xs.length := by rw [List.size_toArray]; exact rv.length.symm
    rw [e] at D
    refine ⟨_, _, D, ⟨st, p⟩, fun j u h => ?_, fun j h z => z.1⟩
    have h' : its[j]? = some u := by simpa using h
    have hl : j < its.length := (List.getElem?_eq_some_iff.mp h').1
    have hx : xs[j]? = some xs[j] := List.getElem?_eq_getElem (by rw [rv.length]; exact hl)
    obtain ⟨u', hu, ru⟩ := rv.get hx
    rw [h'] at hu
    cases hu
    exact ⟨_, hx, ru⟩
  | str x t =>
    have D := Draws.text (prog := X.prog) (w := X.w) hh it x t
    have hk : xs = signV x := hk
    have e : x.cps.size = xs.length := by rw [hk]; simp [signV]
    rw [e] at D
    refine ⟨_, _, D, st, fun j u h => ?_, fun j h z => z⟩
    obtain ⟨c, t', hc, rfl⟩ := h
    refine ⟨.str ⟨#[c]⟩, ?_, ⟨_, rfl⟩⟩
    rw [hk]
    simp [signV, hc]
theorem Src.begins (I : Inv X pins σ H s) (hk : k.has X.K H xs) : ∃ HB, Begins k.val k.obj HB ∧ HB s.heap := by
  cases k with
  | lst a =>
    obtain ⟨its, rv, p, hz⟩ := I.list hk
    exact ⟨_, begins_list a its.toArray, p.isList⟩
  | tup a =>
    obtain ⟨its, rv, p, hz⟩ := I.tuple hk
    exact ⟨_, begins_tuple a its.toArray, p⟩
  | str x t => exact ⟨_, begins_text x t, True.intro⟩
theorem Src.same (I : Inv X pins σ H s) {ys : List V} (h : k.has X.K H xs) (h' : k.has X.K H ys) : xs = ys := by
  cases k with
  | lst a => exact I.list_inj h h'
  | tup a => exact I.tuple_inj h h'
  | str x t => exact (show xs = signV x from h).trans (show ys = signV x from h').symm
end

/-! ### enumerate(v) -/
def ItE (K : PySem.W.Frag) (k : Src) : It :=
  ⟨fun i H => ∃ xs, k.has K H xs ∧ i < xs.length, fun i H v H' => ∃ T x ob, ob.dict = Option.none ∧ v = .ref T ∧ H T = none ∧ H' = upd H T (.frz ob (.tup [.int (i : Nat), x])) ∧ ∀ xs, k.has K H xs → xs[i]? = some x, fun i H => ∃ xs, k.has K H xs ∧ xs.length = i⟩
theorem turn_E {P : Program} {w : World} {K : PySem.W.Frag} {elts : List Expr} {kk : Nat} {tpos : Pos} (k : Src) (e it : Addr) :
    Turn P w K (.Tuple elts kk tpos) (ItE K k) [e, it] e (fun i h => (∃ old, IsEnum h e it ((i : Nat) : Int) old) ∧ k.st it i h ∧ e ≠ it) where
  mem := by simp
  obj := fun i h st b hb => by
    obtain ⟨⟨old, he⟩, hi, _⟩ := st
    have e' : b = e ∨ b = it := by simpa using hb
    rcases e' with z | z
    · rw [z]; exact ⟨_, he, fun v q => nomatch q⟩
    · rw [z]; exact Src.there hi
  keep := fun i h h' st q => let ⟨⟨old, he⟩, hi, hne⟩ := st; ⟨⟨old, q e (by simp) _ he⟩, Src.keep hi fun o z => q it (by simp) o z, hne⟩
  item := by
    intro X hP hw hK hc i pins s σ H E I hf st hg
    subst hP hw hK
    obtain ⟨⟨old, he⟩, hit, hne⟩ := st
    obtain ⟨xs, hq, hx⟩ := hg
    have hel : e < s.heap.objs.size := Heap.lt_size he
    have hil : it < s.heap.objs.size := by obtain ⟨_, q, _⟩ := Src.there hit; exact Heap.lt_size q
    have hh : X.A.in1.handled = none := I.ok.hd hc
    obtain ⟨P, St, D, st0, hP, hSt⟩ := Src.draws I hq (Src.apart I hq (hf it (by simp))) hh hit
    refine wpAny_pyNext_enum_itemD D he st0 hx hne (Src.notin (Src.apart I hq (hf e (by simp))) hne) fun u h' tk pu ho st1 hT hsz hk => ?_
    obtain ⟨x, hx', ru⟩ := hP i u pu
    refine ⟨_, rfl, wpAny_letOwnedTupleGo_enum (s := { s with heap := h', toks := tk + 1 }) ho fun h'' he' sb => ?_⟩
    have hT2 : h''.get? s.heap.objs.size = some { cls := .type "tuple", data := .seq #[.int i tk, u] } := (sb.2 _ (Nat.ne_of_gt hel)).trans hT
    have new : ObjOk X.prog X.w (upd H s.heap.objs.size (.frz { cls := .type "tuple", data := .seq #[.int i tk, u] } (.tup [.int (i : Nat), x]))) h'' s.heap.objs.size (.frz { cls := .type "tuple", data := .seq #[.int i tk, u] } (.tup [.int (i : Nat), x])) :=
      ⟨hT2, by show 2 ≤ sizeLine; decide, [.int i tk, u], .cons ⟨_, rfl⟩ (.cons ru .nil), ⟨_, hT2, rfl, _, rfl⟩⟩
    have I1 : Inv X pins σ (upd H s.heap.objs.size (.frz { cls := .type "tuple", data := .seq #[.int i tk, u] } (.tup [.int (i : Nat), x]))) { s with heap := h'', toks := tk + 1 } :=
      I.turnedNew (ch := [e, it]) (fun b ob hb q => (sb.2 b (fun z => hb (by simp [z]))).trans (hk b ob (fun z => hb (by simp [z])) (fun z => hb (by simp [z])) q)) hf (Nat.le_refl _) new
    refine ⟨.ref s.heap.objs.size, _, I1, rfl, ⟨_, x, _, rfl, rfl, I.hok.fresh (Nat.le_refl _), rfl, fun ys hy => by rw [Src.same I hy hq]; exact hx'⟩, ⟨⟨u, ?_⟩, Src.keep (hSt _ _ st1) fun o q => (sb.2 it (Ne.symm hne)).trans q, hne⟩, fun b hb => ?_⟩
    · have e1 : ((i + 1 : Nat) : Int) = (i : Int) + 1 := by omega
      rw [e1]; exact he'
    · have hb' : b < s.heap.objs.size := by
        have e' : b = e ∨ b = it := by simpa using hb
        rcases e' with z | z
        · rw [z]; exact hel
        · rw [z]; exact hil
      rw [upd_ne (Nat.ne_of_lt hb')]
      exact (hf b hb).1
  done := by
    intro X hP hw hK hc i pins s σ H E I hf st hg
    subst hP hw hK
    obtain ⟨⟨old, he⟩, hit, hne⟩ := st
    obtain ⟨xs, hq, hx⟩ := hg
    obtain ⟨f0, f1, f2, f3, f4, f5⟩ := hf it (by simp)
    have hh : X.A.in1.handled = none := I.ok.hd hc
    obtain ⟨P, St, D, st0, hP, hSt⟩ := Src.draws I hq (Src.apart I hq (hf it (by simp))) hh hit
    rw [hx] at D
    exact wpAny_pyNext_enum_endD D he st0 fun h' eb => ⟨rfl, I.turned (t' := s.toks) (fun b o hb q => eb b o hb q) f0 f1 f3 f4 f5⟩
  self := fun A i s Q E st h => let ⟨⟨_, he⟩, _⟩ := st; wpAny_pyIter_enum he h

/-! ### zip(v, w) -/
def ItZ (K : PySem.W.Frag) (k l : Src) : It :=
  ⟨fun i H => ∃ xs ys, k.has K H xs ∧ l.has K H ys ∧ i < xs.length ∧ i < ys.length,
    fun i H v H' => ∃ T x y ob, ob.dict = Option.none ∧ v = .ref T ∧ H T = none ∧ H' = upd H T (.frz ob (.tup [x, y])) ∧ (∀ xs, k.has K H xs → xs[i]? = some x) ∧ ∀ ys, l.has K H ys → ys[i]? = some y,
    fun i H => ∃ xs ys, k.has K H xs ∧ l.has K H ys ∧ i ≤ xs.length ∧ i ≤ ys.length ∧ (i = xs.length ∨ i = ys.length)⟩
structure ZApart (z TI TO i1 i2 : Addr) : Prop where
  a1 : TI ≠ z
  a2 : TO ≠ z
  a3 : TI ≠ TO
  a4 : TI ≠ i1
  a5 : TI ≠ i2
  a6 : z ≠ i1
  a7 : z ≠ i2
  a8 : TO ≠ i1
  a9 : TO ≠ i2
  a10 : i1 ≠ i2
theorem turn_Z {P : Program} {w : World} {K : PySem.W.Frag} {elts : List Expr} {kk : Nat} {tpos : Pos} {k l : Src} {z TI TO i1 i2 : Addr} (D : ZApart z TI TO i1 i2) :
    Turn P w K (.Tuple elts kk tpos) (ItZ K k l) [z, TI, TO, i1, i2] z (fun i h => IsZip h z TI TO .none ∧ IsTupOf2 h TI (.ref i1) (.ref i2) ∧ (∃ x y, IsTupOf2 h TO x y) ∧ k.st i1 i h ∧ l.st i2 i h) where
  mem := by simp
  obj := fun i h st c hc => by
    obtain ⟨hz, hTI, ⟨x, y, hTO⟩, h1, h2⟩ := st
    have e' : c = z ∨ c = TI ∨ c = TO ∨ c = i1 ∨ c = i2 := by simpa using hc
    rcases e' with q | q | q | q | q
    · rw [q]; exact ⟨_, hz, fun v q => nomatch q⟩
    · rw [q]; exact ⟨_, hTI, fun v q => nomatch q⟩
    · rw [q]; exact ⟨_, hTO, fun v q => nomatch q⟩
    · rw [q]; exact Src.there h1
    · rw [q]; exact Src.there h2
  keep := fun i h h' st q => by
    obtain ⟨hz, hTI, ⟨x, y, hTO⟩, h1, h2⟩ := st
    exact ⟨q z (by simp) _ hz, q TI (by simp) _ hTI, ⟨x, y, q TO (by simp) _ hTO⟩, Src.keep h1 fun o e => q i1 (by simp) o e, Src.keep h2 fun o e => q i2 (by simp) o e⟩
  item := by
    intro X hP hw hK hc i pins s σ H E I hf st hg
    subst hP hw hK
    obtain ⟨hz, hTI, ⟨x0, y0, hTO⟩, h1, h2⟩ := st
    obtain ⟨xs, ys, hqx, hqy, hx, hy⟩ := hg
    have hzl : z < s.heap.objs.size := Heap.lt_size hz
    have hh : X.A.in1.handled = none := I.ok.hd hc
    have ap := fun b hb => Src.apart (k := k) I hqx (hf b hb)
    have ap2 := fun b hb => Src.apart (k := l) I hqy (hf b hb)
    obtain ⟨P1, St1, D1, s1, hP1, hS1⟩ := Src.draws I hqx (ap i1 (by simp)) hh h1
    obtain ⟨P2, St2, D2, s2, hP2, hS2⟩ := Src.draws I hqy (ap2 i2 (by simp)) hh h2
    have S : ZipSep2 z TI TO i1 i2 (k.fp i1) (l.fp i2) := ⟨D.a1, D.a2, D.a3, D.a4, Src.mem, Src.notin (ap z (by simp)) D.a6, Src.notin (ap TO (by simp)) D.a8, D.a5, Src.mem, Src.notin (ap2 z (by simp)) D.a7, Src.notin (ap2 TO (by simp)) D.a9, Src.notin (ap2 i1 (by simp)) D.a10, Src.notin (ap i2 (by simp)) D.a10.symm⟩
    refine wpAny_pyNext_zipD2_item S D1 D2 hz hTI hTO s1 s2 hx hy fun u u2 h' tk pu pu2 z' TO' h1' h2' hT hsz hk => ?_
    obtain ⟨x, hx', ru⟩ := hP1 i u pu
    obtain ⟨y, hy', ru2⟩ := hP2 i u2 pu2
    refine ⟨_, rfl, wpAny_letOwnedTupleGo_zip (s := { s with heap := h', toks := tk }) z' fun h'' z'' sb => ?_⟩
    have hT2 : h''.get? s.heap.objs.size = some { cls := .type "tuple", data := .seq #[u, u2] } := (sb.2 _ (Nat.ne_of_gt hzl)).trans hT
    have new : ObjOk X.prog X.w (upd H s.heap.objs.size (.frz { cls := .type "tuple", data := .seq #[u, u2] } (.tup [x, y]))) h'' s.heap.objs.size (.frz { cls := .type "tuple", data := .seq #[u, u2] } (.tup [x, y])) :=
      ⟨hT2, by show 2 ≤ sizeLine; decide, [u, u2], .cons ru (.cons ru2 .nil), ⟨_, hT2, rfl, _, rfl⟩⟩
    have I1 : Inv X pins σ (upd H s.heap.objs.size (.frz { cls := .type "tuple", data := .seq #[u, u2] } (.tup [x, y]))) { s with heap := h'', toks := tk } :=
      I.turnedNew (ch := [z, TI, TO, i1, i2]) (fun c o hb q => (sb.2 c (fun q' => hb (by simp [q']))).trans (hk c o (fun q' => hb (by simp [q'])) (fun q' => hb (by simp [q'])) (fun q' => hb (by simp [q'])) (fun q' => hb (by simp [q'])) q)) hf (Nat.le_refl _) new
    refine ⟨.ref s.heap.objs.size, _, I1, rfl, ⟨_, x, y, _, rfl, rfl, I.hok.fresh (Nat.le_refl _), rfl, fun l hl => by rw [Src.same I hl hqx]; exact hx', fun l hl => by rw [Src.same I hl hqy]; exact hy'⟩, ⟨z'', ?_, ⟨u, u2, ?_⟩, ?_, ?_⟩, fun c hcm => ?_⟩
    · exact (sb.2 _ D.a1).trans (hk _ _ D.a1 D.a3 D.a4 D.a5 hTI)
    · exact (sb.2 _ D.a2).trans TO'
    · exact Src.keep (hS1 _ _ h1') fun o q => (sb.2 _ D.a6.symm).trans q
    · exact Src.keep (hS2 _ _ h2') fun o q => (sb.2 _ D.a7.symm).trans q
    · have hlt : c < s.heap.objs.size := by
        have e' : c = z ∨ c = TI ∨ c = TO ∨ c = i1 ∨ c = i2 := by simpa using hcm
        rcases e' with q | q | q | q | q
        · rw [q]; exact hzl
        · rw [q]; exact Heap.lt_size hTI
        · rw [q]; exact Heap.lt_size hTO
        · rw [q]; obtain ⟨_, e1, _⟩ := Src.there h1; exact Heap.lt_size e1
        · rw [q]; obtain ⟨_, e2, _⟩ := Src.there h2; exact Heap.lt_size e2
      rw [upd_ne (Nat.ne_of_lt hlt)]
      exact (hf c hcm).1
  done := by
    intro X hP hw hK hc i pins s σ H E I hf st hg
    subst hP hw hK
    obtain ⟨hz, hTI, ⟨x0, y0, hTO⟩, h1, h2⟩ := st
    obtain ⟨xs, ys, hqx, hqy, hx, hy, hend⟩ := hg
    have hh : X.A.in1.handled = none := I.ok.hd hc
    have ap := fun b hb => Src.apart (k := k) I hqx (hf b hb)
    have ap2 := fun b hb => Src.apart (k := l) I hqy (hf b hb)
    obtain ⟨P1, St1, D1, s1, hP1, hS1⟩ := Src.draws I hqx (ap i1 (by simp)) hh h1
    obtain ⟨P2, St2, D2, s2, hP2, hS2⟩ := Src.draws I hqy (ap2 i2 (by simp)) hh h2
    have S : ZipSep2 z TI TO i1 i2 (k.fp i1) (l.fp i2) := ⟨D.a1, D.a2, D.a3, D.a4, Src.mem, Src.notin (ap z (by simp)) D.a6, Src.notin (ap TO (by simp)) D.a8, D.a5, Src.mem, Src.notin (ap2 z (by simp)) D.a7, Src.notin (ap2 TO (by simp)) D.a9, Src.notin (ap2 i1 (by simp)) D.a10, Src.notin (ap i2 (by simp)) D.a10.symm⟩
    exact wpAny_pyNext_zipD2_end S D1 D2 hz hTI hTO s1 s2 hx hy hend fun h' tk hk => ⟨rfl, I.turnedL (ch := [z, TI, TO, i1, i2]) (fun c o hb q =>
      hk c o (fun q' => hb (by simp [q'])) (fun q' => hb (by simp [q'])) (fun q' => hb (by simp [q'])) (fun q' => hb (by simp [q'])) q) hf⟩
  self := fun A i s Q E st h => wpAny_pyIter_zip st.1 h
end RH

/-! The data layer, part 5: loops and comprehensions. -/
namespace RH
open PySem PySem.Spec L2

/-- J yields the data ds, one a turn -/
structure ItD (K : PySem.W.Frag) (F : Hp) (J : It) (ds : List PyData) : Prop where
  go : ∀ i F' H', Grw F F' → Grw F' H' → i < ds.length → J.go i H'
  yld : ∀ i F' H' x H'', Grw F F' → Grw F' H' → i < ds.length → J.yld i H' x H'' → ∃ F'' d, Alc F' H' F'' H'' ∧ ds[i]? = some d ∧ Dp K F'' x d
  stop : ∀ F' H', Grw F F' → Grw F' H' → J.stop ds.length H'
def tI (C : Lx) (Wx : WX) (m : M (List PyData)) : TI := fun σ H R => ∃ δ w F, C.ok F H σ δ w ∧ tAt C Wx m σ δ w F H fun ds _ _ F' H' => ∀ J, ItD C.K F' J ds → R J H'
abbrev PId (X : Cx) (C : Lx) (Wx : WX) (tg e : Expr) (m : M (List PyData)) : Prop := PI X tg e (tI C Wx m)

/-! ### sources of data -/
def signD (x : Str) : List PyData := x.cps.toList.map fun c => .str ⟨#[c]⟩
def itemsD : PyData → Option (List PyData)
  | .list ds => some ds
  | .tuple ds => some ds
  | .str x => some (signD x)
  | _ => none
theorem signs_dp (K : PySem.W.Frag) (F : Hp) (x : Str) : DpAll K F (signV x) (signD x) := by
  unfold signV signD
  generalize x.cps.toList = l
  induction l with
  | nil => exact .nil
  | cons c r ih => exact .cons (.str _) ih
theorem src_of {K : PySem.W.Frag} {F : Hp} {v : V} {d : PyData} {u : Value} {ds : List PyData} (h : Dp K F v d) (r : RelV v u) (e : itemsD d = some ds) :
    ∃ (k : Src) (xs : List V), k.val = u ∧ (∀ H, Grw F H → k.has K H xs) ∧ DpAll K F xs ds := by
  cases h with
  | lst hs hd =>
    cases e
    cases r
    exact ⟨.lst _, _, rfl, fun H g => sql_ext g hs, hd⟩
  | tup hs hd =>
    cases e
    cases r
    exact ⟨.tup _, _, rfl, fun H g => sqt_ext g hs, hd⟩
  | str x =>
    cases e
    obtain ⟨t, rfl⟩ := r
    exact ⟨.str x t, _, rfl, fun H g => rfl, signs_dp K F x⟩
  | _ => cases e
def msrc (m : M PyData) : M (List PyData) := mbind m fun d => mlift (itemsD d)
section
variable {X : Cx} {C : Lx} {Wx : WX} {tg e e2 : Expr} {es : List Expr} {m m' : M PyData} {pos p : Pos}
theorem nl_of {α : Type} {l : List α} {i : Nat} {a : α} (h : l[i]? = some a) : i < l.length := (List.getElem?_eq_some_iff.mp h).1
theorem itD_list {K : PySem.W.Frag} {F : Hp} {a : Addr} {xs : List V} {ds : List PyData} (h : SqL K F a xs) (hd : DpAll K F xs ds) : ItD K F (Itl K a) ds where
  go := fun i F' H' g1 g2 hi => ⟨xs, xs[i]'(by rw [dps_len hd]; exact hi), sql_ext (g1.trans g2) h, by simp⟩
  yld := fun i F' H' x H'' g1 g2 hi q => by
    obtain ⟨rfl, q⟩ := q
    obtain ⟨d, h1, h2⟩ := dps_at' hd (q xs (sql_ext (g1.trans g2) h))
    exact ⟨F', d, Alc.refl g2, h1, dp_ext g1 h2⟩
  stop := fun F' H' g1 g2 => ⟨xs, sql_ext (g1.trans g2) h, Nat.le_of_eq (dps_len hd)⟩
theorem itD_tup {K : PySem.W.Frag} {F : Hp} {a : Addr} {xs : List V} {ds : List PyData} (h : SqT K F a xs) (hd : DpAll K F xs ds) : ItD K F (Itt K a) ds where
  go := fun i F' H' g1 g2 hi => ⟨xs, xs[i]'(by rw [dps_len hd]; exact hi), sqt_ext (g1.trans g2) h, by simp⟩
  yld := fun i F' H' x H'' g1 g2 hi q => by
    obtain ⟨rfl, q⟩ := q
    obtain ⟨d, h1, h2⟩ := dps_at' hd (q xs (sqt_ext (g1.trans g2) h))
    exact ⟨F', d, Alc.refl g2, h1, dp_ext g1 h2⟩
  stop := fun F' H' g1 g2 => ⟨xs, sqt_ext (g1.trans g2) h, Nat.le_of_eq (dps_len hd)⟩
theorem itD_str {K : PySem.W.Frag} {F : Hp} {x : Str} : ItD K F (Its x) (signD x) where
  go := fun i F' H' g1 g2 hi => by
    show i < x.cps.size
    simpa [signD] using hi
  yld := fun i F' H' y H'' g1 g2 hi q => by
    obtain ⟨rfl, c, hc, rfl⟩ := q
    exact ⟨F', _, Alc.refl g2, by simp [signD, hc], .str _⟩
  stop := fun F' H' g1 g2 => by
    show x.cps.size ≤ _
    simp [signD]
/-- for .. in e: a list, a tuple, a text -/
theorem pi_src (hK : C.K = X.K) (he : PD X C Wx e m) : PId X C Wx tg e (msrc m) := by
  refine ⟨fun pins s σ H R I h => ?_⟩
  obtain ⟨δ, w, F, S, h⟩ := h
  have h1 : tE C Wx m σ H fun v H1 => ∃ F1 d ds, Grw F1 H1 ∧ Dp C.K F1 v d ∧ itemsD d = some ds ∧ ∀ J, ItD C.K F1 J ds → R J H1 := by
    refine tE_then S h fun d δ1 w1 F1 H1 v S1 g1 hv h1 => ?_
    obtain ⟨ds, e1, q⟩ := tAt_lift h1
    exact ⟨F1, d, ds, S1.sub, hv, e1, q w1 F1 H1 S1 S1.here⟩
  refine thn (he.run pins s σ H _ I h1) fun u s1 ⟨v, H1, I1, r1, F1, d, ds, g, hv, ed, q⟩ => ?_
  rw [hK] at hv q
  cases hv with
  | @lst a xs ds' hs hd =>
    cases ed
    cases r1
    obtain ⟨its, rv, pl, hz⟩ := I1.list (sql_ext g hs)
    exact wpAny_pyIter_list pl.isList (pi_one (tk := s1.toks) I1 _ (turn_list a _) ⟨_, Heap.get?_push_size _ rfl, rfl, rfl⟩ (q _ (itD_list hs hd)))
  | @tup a xs ds' hs hd =>
    cases ed
    cases r1
    obtain ⟨its, rv, pl, hz⟩ := I1.tuple (sqt_ext g hs)
    exact wpAny_pyIter_tuple (show s1.heap.IsTuple a its.toArray from pl) (pi_one (tk := s1.toks) I1 _ (turn_tuple a _) ⟨_, Heap.get?_push_size _ rfl, rfl, rfl⟩ (q _ (itD_tup hs hd)))
  | str x =>
    cases ed
    obtain ⟨t, rfl⟩ := r1
    cases ha : x.cps.all (· < 128)
    · exact wpAny_pyIter_wide ha (pi_one (tk := s1.toks) I1 _ (turn_str _ x t "str_iterator" (.inr rfl)) ⟨_, Heap.get?_push_size _ rfl, rfl, rfl⟩ (q _ itD_str))
    · exact wpAny_pyIter_ascii ha (pi_one (tk := s1.toks) I1 _ (turn_str _ x t "str_ascii_iterator" (.inl rfl)) ⟨_, Heap.get?_push_size _ rfl, rfl, rfl⟩ (q _ itD_str))
  | _ => cases ed

/-! ### enumerate, zip -/
def enumD : Nat → List PyData → List PyData
  | _, [] => []
  | i, d :: ds => .tuple [.int (i : Nat), d] :: enumD (i + 1) ds
theorem enumD_len : ∀ (i : Nat) (ds : List PyData), (enumD i ds).length = ds.length
  | _, [] => rfl
  | i, d :: ds => congrArg (· + 1) (enumD_len (i + 1) ds)
theorem enumD_at : ∀ (i j : Nat) (ds : List PyData) {d : PyData}, ds[j]? = some d → (enumD i ds)[j]? = some (.tuple [.int ((i + j : Nat) : Int), d])
  | _, _, [], _, h => by simp at h
  | i, 0, d :: ds, _, h => by simp at h; subst h; simp [enumD]
  | i, j + 1, d :: ds, e, h => by
    have := enumD_at (i + 1) j ds (d := e) (by simpa using h)
    simp only [enumD, List.getElem?_cons_succ]
    rw [this]
    congr 5
    omega
def zipD : List PyData → List PyData → List PyData
  | x :: xs, y :: ys => .tuple [x, y] :: zipD xs ys
  | _, _ => []
theorem zipD_len : ∀ xs ys : List PyData, (zipD xs ys).length = min xs.length ys.length
  | [], _ => by simp [zipD]
  | _ :: _, [] => by simp [zipD]
  | x :: xs, y :: ys => by simp only [zipD, List.length_cons, zipD_len xs ys]; omega
theorem zipD_at : ∀ (j : Nat) (xs ys : List PyData) {x y : PyData}, xs[j]? = some x → ys[j]? = some y → (zipD xs ys)[j]? = some (.tuple [x, y])
  | _, [], _, _, _, h, _ => by simp at h
  | _, _ :: _, [], _, _, _, h => by simp at h
  | 0, x :: xs, y :: ys, _, _, h1, h2 => by simp at h1 h2; subst h1; subst h2; simp [zipD]
  | j + 1, x :: xs, y :: ys, _, _, h1, h2 => by
    simp only [zipD, List.getElem?_cons_succ]
    exact zipD_at j xs ys (by simpa using h1) (by simpa using h2)
def menum (m : M PyData) : M (List PyData) := mbind m fun d => mlift ((itemsD d).map (enumD 0))
def mzip (m m' : M PyData) : M (List PyData) := mbind m fun x => mbind m' fun y => mlift (match itemsD x, itemsD y with
  | some xs, some ys => some (zipD xs ys)
  | _, _ => none)
theorem new_tup2 {K : PySem.W.Frag} {F H : Hp} {T : Addr} {x y : V} {d e : PyData} {ob : Obj} (ho : ob.dict = none) (g : Grw F H) (hT : H T = none) (h1 : Dp K F x d) (h2 : Dp K F y e) : Alc F H (upd F T (.frz ob (.tup [x, y]))) (upd H T (.frz ob (.tup [x, y]))) ∧ Dp K (upd F T (.frz ob (.tup [x, y]))) (.ref T) (.tuple [d, e]) :=
  new_tup ho g hT (.cons h1 (.cons h2 .nil))
theorem itD_E {K : PySem.W.Frag} {F : Hp} {k : Src} {xs : List V} {ds : List PyData} (h : ∀ H, Grw F H → k.has K H xs) (hd : DpAll K F xs ds) : ItD K F (ItE K k) (enumD 0 ds) where
  go := fun i F' H' g1 g2 hi => ⟨xs, h H' (g1.trans g2), by rw [enumD_len] at hi; rw [dps_len hd]; exact hi⟩
  yld := fun i F' H' x H'' g1 g2 hi q => by
    obtain ⟨T, y, ob, ho, rfl, hT, rfl, q⟩ := q
    obtain ⟨d, h1, h2⟩ := dps_at' hd (q xs (h H' (g1.trans g2)))
    obtain ⟨a, b⟩ := new_tup2 ho g2 hT (.int (i : Nat)) (dp_ext g1 h2)
    refine ⟨_, _, a, ?_, b⟩
    have := enumD_at 0 i ds h1
    rw [Nat.zero_add] at this
    exact this
  stop := fun F' H' g1 g2 => ⟨xs, h H' (g1.trans g2), by rw [enumD_len, dps_len hd]⟩
theorem itD_Z {K : PySem.W.Frag} {F : Hp} {k l : Src} {xs ys : List V} {ds es : List PyData} (h : ∀ H, Grw F H → k.has K H xs) (hd : DpAll K F xs ds) (h' : ∀ H, Grw F H → l.has K H ys) (hd' : DpAll K F ys es) : ItD K F (ItZ K k l) (zipD ds es) where
  go := fun i F' H' g1 g2 hi => by
    rw [zipD_len] at hi
    refine ⟨xs, ys, h H' (g1.trans g2), h' H' (g1.trans g2), ?_, ?_⟩
    · rw [dps_len hd]; omega
    · rw [dps_len hd']; omega
  yld := fun i F' H' x H'' g1 g2 hi q => by
    obtain ⟨T, y, z, ob, ho, rfl, hT, rfl, q1, q2⟩ := q
    obtain ⟨d, h1, h2⟩ := dps_at' hd (q1 xs (h H' (g1.trans g2)))
    obtain ⟨e, h3, h4⟩ := dps_at' hd' (q2 ys (h' H' (g1.trans g2)))
    obtain ⟨a, b⟩ := new_tup2 ho g2 hT (dp_ext g1 h2) (dp_ext g1 h4)
    exact ⟨_, _, a, zipD_at i ds es h1 h3, b⟩
  stop := fun F' H' g1 g2 => by
    rw [zipD_len]
    have e1 := dps_len hd
    have e2 := dps_len hd'
    exact ⟨xs, ys, h H' (g1.trans g2), h' H' (g1.trans g2), by omega, by omega, by omega⟩
theorem pi_enumD {elts : List Expr} {kk : Nat} {tpos : Pos} (hK : C.K = X.K) (he : PD X C Wx e m) (hm : X.mg "enumerate" = none) (hg : Gl X "enumerate" := by rfl) (hs : starEach [e] X.env = [(false, eval e X.env)] := by rfl) :
    PId X C Wx (.Tuple elts kk tpos) (.Call (.Name "enumerate" p) [e] [] pos) (menum m) := by
  refine ⟨fun pins s σ H R I h => ?_⟩
  obtain ⟨δ, w, F, S, h⟩ := h
  have ha : PA X [e] (tCons (tE C Wx m) tNil) := pa_cons he pa_nil (by rw [hs]; rfl)
  have h1 : tCons (tE C Wx m) tNil σ H fun vs H1 => ∃ F1 v d ds, vs = [v] ∧ Grw F1 H1 ∧ Dp C.K F1 v d ∧ itemsD d = some ds ∧ ∀ J, ItD C.K F1 J (enumD 0 ds) → R J H1 := by
    refine tE_then S h fun d δ1 w1 F1 H1 v S1 g1 hv h1 => ?_
    obtain ⟨ds, e1, q⟩ := tAt_lift h1
    cases e2 : itemsD d with
    | none => rw [e2] at e1; cases e1
    | some es =>
      rw [e2] at e1
      cases e1
      exact ⟨F1, v, d, es, rfl, S1.sub, hv, e2, q w1 F1 H1 S1 S1.here⟩
  refine PyProof.Rows.Call_ (ld_blt I hg hm PyProof.Rows.boot_enumerate (PyProof.Rows.callWith_type1 (thn (ha.run pos pins s σ H _ I h1) fun us s1 hh => ?_) hs rfl))
  obtain ⟨vs, H1, I1, r1, F1, v, d, ds, rfl, g, hv, ed, q⟩ := hh
  rw [hK] at hv q
  obtain ⟨u, rfl, ru⟩ := vals1 r1
  obtain ⟨k, xs, ek, hk, hd⟩ := src_of hv ru ed
  subst ek
  obtain ⟨HB, B, hB⟩ := Src.begins I1 (hk H1 g)
  refine enum_begins1 B hB fun h' he ho hsz hkp => wpAny_pyIter_enum he ?_
  have I2 : Inv X pins σ H1 { s1 with heap := h' } := I1.kept (t' := s1.toks) hkp
  refine ⟨s1.heap.objs.size + 1, [s1.heap.objs.size + 1, s1.heap.objs.size], _, _, H1, rfl, I2, turn_E k (s1.heap.objs.size + 1) s1.heap.objs.size, ⟨⟨.none, he⟩, Src.start ho, Nat.succ_ne_self _⟩, fun b hb => ?_, q _ (itD_E hk hd)⟩
  have hle : s1.heap.objs.size ≤ b := by
    rcases List.mem_cons.mp hb with z | z
    · rw [z]; exact Nat.le_add_right _ _
    · rw [List.mem_singleton.mp z]; exact Nat.le_refl _
  exact I1.fpOk hle (I1.hok.fresh hle)
theorem nne {a b : Nat} (h : a ≠ b) : (show Addr from a) ≠ (show Addr from b) := h
theorem zap (n : Nat) : ZApart (n + 4) (n + 2) (n + 3) n (n + 1) := ⟨nne (by omega), nne (by omega), nne (by omega), nne (by omega), nne (by omega), nne (by omega), nne (by omega), nne (by omega), nne (by omega), nne (by omega)⟩
theorem pi_zipD {elts : List Expr} {kk : Nat} {tpos : Pos} (hK : C.K = X.K) (he : PD X C Wx e m) (he2 : PD X C Wx e2 m') (hm : X.mg "zip" = none) (hg : Gl X "zip" := by rfl) (hs : starEach [e, e2] X.env = (false, eval e X.env) :: starEach [e2] X.env := by rfl)
    (hs2 : starEach [e2] X.env = [(false, eval e2 X.env)] := by rfl) (hpl : (backTo pos (starEach [e2] X.env)).any (·.1) = false := by rfl) : PId X C Wx (.Tuple elts kk tpos) (.Call (.Name "zip" p) [e, e2] [] pos) (mzip m m') := by
  refine ⟨fun pins s σ H R I h => ?_⟩
  obtain ⟨δ, w, F, S, h⟩ := h
  have ha : PA X [e, e2] (tCons (tE C Wx m) (tCons (tE C Wx m') tNil)) := pa_cons he (pa_cons he2 pa_nil (by rw [hs2]; rfl)) hs
  have h1 : tCons (tE C Wx m) (tCons (tE C Wx m') tNil) σ H fun vs H1 => ∃ F1 v v2 d d2 ds es, vs = [v, v2] ∧ Grw F1 H1 ∧ Dp C.K F1 v d ∧ Dp C.K F1 v2 d2 ∧ itemsD d = some ds ∧ itemsD d2 = some es ∧ ∀ J, ItD C.K F1 J (zipD ds es) → R J H1 := by
    refine tE_then S h fun d δ1 w1 F1 H1 v S1 g1 hv h1 => ?_
    refine tE_then S1 h1 fun d2 δ2 w2 F2 H2 v2 S2 g2 hv2 h2 => ?_
    obtain ⟨ds, e1, q⟩ := tAt_lift h2
    split at e1
    · rename_i xs ys e3 e4
      cases e1
      exact ⟨F2, v, v2, d, d2, xs, ys, rfl, S2.sub, dp_ext g2.ff hv, hv2, e3, e4, q w2 F2 H2 S2 S2.here⟩
    · cases e1
  refine PyProof.Rows.Call_ (ld_blt I hg hm PyProof.Rows.boot_zip (PyProof.Rows.callWith_type1 (thn (ha.run pos pins s σ H _ I h1) fun us s1 hh => ?_) hs hpl))
  obtain ⟨vs, H1, I1, r1, F1, v, v2, d, d2, ds, es, rfl, g, hv, hv2, ed, ed2, q⟩ := hh
  rw [hK] at hv hv2 q
  obtain ⟨u, u2, rfl, ru, ru2⟩ := vals2 r1
  obtain ⟨k, xs, ek, hk, hd⟩ := src_of hv ru ed
  obtain ⟨l, ys, el, hl, hd2⟩ := src_of hv2 ru2 ed2
  subst ek
  subst el
  obtain ⟨HB, B, hB⟩ := Src.begins I1 (hk H1 g)
  obtain ⟨HB2, B2, hB2⟩ := Src.begins I1 (hl H1 g)
  refine zip_begins2 B B2 hB hB2 fun h' hz hTI hTO h1 h2 hsz hkp => wpAny_pyIter_zip hz ?_
  have I2 : Inv X pins σ H1 { s1 with heap := h' } := I1.kept (t' := s1.toks) hkp
  refine ⟨s1.heap.objs.size + 4, [s1.heap.objs.size + 4, s1.heap.objs.size + 2, s1.heap.objs.size + 3, s1.heap.objs.size, s1.heap.objs.size + 1], _, _, H1, rfl, I2, turn_Z (k := k) (l := l) (zap s1.heap.objs.size), ⟨hz, hTI, ⟨_, _, hTO⟩, Src.start h1, Src.start h2⟩, fun c hcm => ?_, q _ (itD_Z hk hd hl hd2)⟩
  have hle : s1.heap.objs.size ≤ c := by
    simp only [List.mem_cons, List.not_mem_nil, or_false] at hcm
    rcases hcm with z | z | z | z | z
    · rw [z]; exact Nat.le_add_right _ _
    · rw [z]; exact Nat.le_add_right _ _
    · rw [z]; exact Nat.le_add_right _ _
    · rw [z]; exact Nat.le_refl _
    · rw [z]; exact Nat.le_add_right _ _
  exact I1.fpOk hle (I1.hok.fresh hle)

/-! ### ranges -/
def rangeD (lo : Int) (n : Nat) : List PyData := (List.range n).map fun i => .int (lo + (i : Nat))
theorem itD_R {K : PySem.W.Frag} {F : Hp} (lo : Int) (n : Nat) : ItD K F (Itr lo n) (rangeD lo n) where
  go := fun i F' H' g1 g2 hi => by
    show i < n
    simpa [rangeD] using hi
  yld := fun i F' H' y H'' g1 g2 hi q => by
    obtain ⟨rfl, rfl⟩ := q
    have hi' : i < n := by simpa [rangeD] using hi
    exact ⟨F', _, Alc.refl g2, by simp [rangeD, hi'], .int _⟩
  stop := fun F' H' g1 g2 => by
    show n ≤ _
    simp [rangeD]
def in62 (i : Int) : Bool := decide (-(2 ^ 62) ≤ i) && decide (i < 2 ^ 62)
theorem in62_of {i : Int} (h : in62 i = true) : -(2 ^ 62) ≤ i ∧ i < 2 ^ 62 := by
  unfold in62 at h
  rw [Bool.and_eq_true] at h
  exact ⟨of_decide_eq_true h.1, of_decide_eq_true h.2⟩
def mrange1 (m : M PyData) : M (List PyData) := mbind m fun d => mlift (match d with
  | .int j => if in62 j then some (rangeD 0 j.toNat) else none
  | _ => none)
def mrange2 (m m' : M PyData) : M (List PyData) := mbind m fun d => mbind m' fun e => mlift (match d, e with
  | .int i, .int j => if in62 i && in62 j then some (rangeD i (j - i).toNat) else none
  | _, _ => none)
theorem pi_weak {wi wi' : TI} (h : PI X tg e wi) (i : ∀ σ H R, wi' σ H R → wi σ H R) : PI X tg e wi' := ⟨fun pins s σ H R I q => h.run pins s σ H R I (i σ H R q)⟩
theorem pi_rng1 (he : PD X C Wx e m) (hm : X.mg "range" = none) (hg : Gl X "range" := by rfl) (hs : starEach [e] X.env = [(false, eval e X.env)] := by rfl) : PId X C Wx tg (.Call (.Name "range" p) [e] [] pos) (mrange1 m) := by
  have ha : PA X [e] (tCons (tE C Wx m) tNil) := pa_cons he pa_nil (by rw [hs]; rfl)
  refine pi_weak (pi_range1 hg hm ha hs) fun σ H R h => ?_
  obtain ⟨δ, w, F, S, h⟩ := h
  refine tE_then S h fun d δ1 w1 F1 H1 v S1 g1 hv h1 => ?_
  obtain ⟨ds, e1, q⟩ := tAt_lift h1
  split at e1
  · rename_i j
    cases hv
    split at e1
    · rename_i hj
      cases e1
      have hb := in62_of hj
      exact ⟨j, rfl, hb.1, hb.2, q w1 F1 H1 S1 S1.here _ (itD_R 0 _)⟩
    · cases e1
  · cases e1
theorem pi_rng2 (he : PD X C Wx e m) (he2 : PD X C Wx e2 m') (hm : X.mg "range" = none) (hg : Gl X "range" := by rfl) (hs : starEach [e, e2] X.env = [(false, eval e X.env), (false, eval e2 X.env)] := by rfl) (hs2 : starEach [e2] X.env = [(false, eval e2 X.env)] := by rfl) :
    PId X C Wx tg (.Call (.Name "range" p) [e, e2] [] pos) (mrange2 m m') := by
  have ha : PA X [e, e2] (tCons (tE C Wx m) (tCons (tE C Wx m') tNil)) := pa_cons he (pa_cons he2 pa_nil (by rw [hs2]; rfl)) (by rw [hs, hs2])
  refine pi_weak (pi_range2 hg hm ha hs hs2) fun σ H R h => ?_
  obtain ⟨δ, w, F, S, h⟩ := h
  refine tE_then S h fun d δ1 w1 F1 H1 v S1 g1 hv h1 => ?_
  refine tE_then S1 h1 fun d2 δ2 w2 F2 H2 v2 S2 g2 hv2 h2 => ?_
  obtain ⟨ds, e1, q⟩ := tAt_lift h2
  split at e1
  · rename_i i j
    cases hv
    cases hv2
    split at e1
    · rename_i hj
      cases e1
      rw [Bool.and_eq_true] at hj
      have hb := in62_of hj.1
      have hb2 := in62_of hj.2
      exact ⟨i, j, rfl, ⟨hb.1, hb.2, hb2.1, hb2.2⟩, q w2 F2 H2 S2 S2.here _ (itD_R i _)⟩
    · cases e1
  · cases e1
end
end RH

/-! The data layer, part 6: for, while, comprehensions. -/
namespace RH
open PySem PySem.Spec L2

/-! ### for -/
def sloop (t : Tg) (mb : MS) : List PyData → MS
  | [] => snext
  | d :: ds => fun δ => match bindT t d δ with
    | none => none
    | some δ1 => match mb δ1 with
      | some (.nx δ2) => sloop t mb ds δ2
      | r => r
def sfor (mi : M (List PyData)) (t : Tg) (mb : MS) : MS := sbind mi fun ds => sloop t mb ds
section
variable {X : Cx} {C : Lx} {Wx : WX} {tg iter c : Expr} {body : List Stmt} {mi : M (List PyData)} {mb : MS} {mc : M Bool} {t : Tg} {pos : Pos}
theorem Step.sub {w w' : Wn} {F H : Hp} (h : ∀ p, w'.has p → w.has p) : Step w.has F H F H w'.has := Step.refl h
theorem pd_for (hp : PassesOwn (model X.prog X.w) X.A X.env X.xe) (hc : X.calm = true) (hi : PId X C Wx tg iter mi) (hg : PG X tg (tG C t)) (hb : PBd X C Wx body mb) (hs : ∀ x, foldedSetIterable iter X.env x = pure x := by intro _; rfl) :
    PSd X C Wx (.For tg iter body [] pos) (sfor mi t mb) := by
  refine ps_weak (ps_for hp hc hi hg hb hs) fun D σ H q => ?_
  obtain ⟨δ, w, F, S, h⟩ := q
  refine ⟨δ, w, F, S, tAt_mono (tSt_bind h) fun ds δ1 w1 F1 H1 S1 g1 h1 J hJ => ?_⟩
  refine ⟨fun i m σ' H' => m = ds.length - i ∧ i ≤ ds.length ∧ ∃ δ' w' F', C.ok F' H' σ' δ' w' ∧ Grw F1 F' ∧ tStAt C Wx (sloop t mb (ds.drop i)) D δ' w' F' H', ⟨ds.length, by simp, Nat.zero_le _, δ1, w1, F1, S1, Grw.refl _, h1⟩, ?_⟩
  rintro i m σ2 H2 ⟨rfl, hi, δ2, w2, F2, S2, g2, h2⟩
  by_cases hlt : i < ds.length
  · refine .inr ⟨hJ.go i F2 H2 g2 S2.sub hlt, fun σ' H' => ∃ δ' w' F', C.ok F' H' σ' δ' w' ∧ Grw F1 F' ∧ tStAt C Wx (sloop t mb (ds.drop (i + 1))) D δ' w' F' H', ?_, ?_⟩
    · rintro σ' H' h'
      exact ⟨ds.length - (i + 1), by omega, rfl, hlt, h'⟩
    · intro x H3 hy
      obtain ⟨F3, d, al, hd, hx⟩ := hJ.yld i F2 H2 x H3 g2 S2.sub hlt hy
      have ed : ds.drop i = d :: ds.drop (i + 1) := by
        rw [List.drop_eq_getElem_cons hlt]
        rw [List.getElem?_eq_getElem hlt] at hd
        rw [Option.some.inj hd]
      rw [ed] at h2
      simp only [tStAt, sloop] at h2
      cases eb : bindT t d δ2 with
      | none => rw [eb] at h2; exact False.elim h2
      | some δb =>
        rw [eb] at h2
        refine ⟨δ2, w2, F3, d, δb, S2.alc al, hx, eb, fun σ' w' S' gs _ => ⟨δb, w', F3, S', ?_⟩⟩
        have gA : Step w2.has F2 H2 F3 H3 w'.has := (al.step w2.has w2.has fun _ h => h).trans (Step.sub gs)
        simp only [tStAt]
        dsimp only at h2
        cases em : mb δb with
        | none => rw [em] at h2; exact h2
        | some r =>
          rw [em] at h2
          cases r with
          | nx δ4 => exact fun σ4 w4 F4 H4 S4 g4 => ⟨δ4, w4, F4, S4, ((g2.trans al.ff).trans g4.ff), tStAt_step (gA.trans g4) h2⟩
          | rt d' δ4 => exact fun v σ4 w4 F4 H4 S4 g4 => h2 v σ4 w4 F4 H4 S4 (gA.trans g4)
          | ex c' δ4 => exact fun σ4 w4 F4 H4 S4 g4 => h2 σ4 w4 F4 H4 S4 (gA.trans g4)
  · have e : i = ds.length := by omega
    subst e
    rw [List.drop_length] at h2
    exact .inl ⟨hJ.stop F2 H2 g2 S2.sub, h2 σ2 w2 F2 H2 S2 S2.here⟩

/-! ### while -/
def swhile (mc : M Bool) (mb : MS) : Nat → MS
  | 0 => fun _ => none
  | n + 1 => sbind mc fun k => if k then (fun δ => match mb δ with
      | some (.nx δ2) => swhile mc mb n δ2
      | r => r) else snext
theorem pd_while (n : Nat) (hp : PassesOwn (model X.prog X.w) X.A X.env X.xe) (hc : PB X C Wx c mc) (hb : PBd X C Wx body mb) : PSd X C Wx (.While c body [] pos) (swhile mc mb n) := by
  refine ps_weak (ps_while hp hc hb) fun D σ H q => ?_
  obtain ⟨δ, w, F, S, h⟩ := q
  refine ⟨fun m σ' H' => ∃ δ' w' F', C.ok F' H' σ' δ' w' ∧ tStAt C Wx (swhile mc mb m) D δ' w' F' H', ⟨n, δ, w, F, S, h⟩, ?_⟩
  rintro m σ2 H2 ⟨δ2, w2, F2, S2, h2⟩
  cases m with
  | zero => exact False.elim h2
  | succ m =>
    refine tSt_thenB S2 h2 fun k δ3 w3 F3 H3 S3 g3 h3 => ?_
    cases k with
    | false =>
      rw [if_neg Bool.false_ne_true] at h3 ⊢
      exact h3 σ2 w3 F3 H3 S3 S3.here
    | true =>
      rw [if_pos rfl] at h3 ⊢
      refine ⟨fun σ' H' => ∃ δ' w' F', C.ok F' H' σ' δ' w' ∧ tStAt C Wx (swhile mc mb m) D δ' w' F' H', fun σ' H' h' => ⟨m, Nat.lt_succ_self m, h'⟩, δ3, w3, F3, S3, ?_⟩
      simp only [tStAt] at h3 ⊢
      cases em : mb δ3 with
      | none => rw [em] at h3; exact h3
      | some r =>
        rw [em] at h3
        cases r with
        | nx δ4 => exact fun σ4 w4 F4 H4 S4 g4 => ⟨δ4, w4, F4, S4, tStAt_step g4 h3⟩
        | rt d' δ4 => exact h3
        | ex c' δ4 => exact h3
end

/-! ### comprehensions -/
def wipeD (δ : List Slot) : List Nat → List Slot
  | [] => δ
  | v :: vs => (wipeD δ vs).set v .no
def keepV : Option Slot → Slot
  | some (.val d) => .val d
  | _ => .no
def restore (δ0 δe : List Slot) : List Nat → List Slot
  | [] => δe
  | v :: vs => (restore δ0 δe vs).set v (keepV δ0[v]?)
def mcloop (vs : List Nat) (t : Tg) (mt : M Bool) (me : M PyData) : List PyData → List Slot → Option (List PyData × List Slot)
  | [], δ => some ([], δ)
  | d :: ds, δ => match bindT t d (wipeD δ vs) with
    | none => none
    | some δ1 => match mt δ1 with
      | some (.ok true δ2) => (match me δ2 with
        | some (.ok y δ3) => (match mcloop vs t mt me ds δ3 with
          | some (ys, δ4) => some (y :: ys, δ4)
          | none => none)
        | _ => none)
      | some (.ok false δ2) => mcloop vs t mt me ds δ2
      | _ => none
def mcompL (vs : List Nat) (t : Tg) (mt : M Bool) (me : M PyData) (ds : List PyData) : M (List PyData) := fun δ => if ds.length ≤ 1000000 then (match mcloop vs t mt me ds δ with
  | some (ys, δe) => some (.ok ys (restore δ δe vs))
  | none => none) else none
def mcomp (mi : M (List PyData)) (vs : List Nat) (t : Tg) (mt : M Bool) (me : M PyData) : M (List PyData) := mbind mi (mcompL vs t mt me)
def mtrue : M Bool := mpure true

theorem wipeD_len (δ : List Slot) : ∀ vs, (wipeD δ vs).length = δ.length
  | [] => rfl
  | v :: vs => by unfold wipeD; rw [List.length_set, wipeD_len δ vs]
theorem restore_len (δ0 δe : List Slot) : ∀ vs, (restore δ0 δe vs).length = δe.length
  | [] => rfl
  | v :: vs => by unfold restore; rw [List.length_set, restore_len δ0 δe vs]
theorem wipeD_out {δ : List Slot} {i : Nat} : ∀ {vs : List Nat}, i ∉ vs → (wipeD δ vs)[i]? = δ[i]?
  | [], _ => rfl
  | v :: vs, h => by
    unfold wipeD
    rw [List.getElem?_set_ne (fun z => h (by rw [z]; exact List.mem_cons_self)), wipeD_out fun z => h (List.mem_cons_of_mem _ z)]
theorem wipeD_in {δ : List Slot} {i : Nat} : ∀ {vs : List Nat} {s : Slot}, i ∈ vs → (wipeD δ vs)[i]? = some s → s = .no
  | [], _, h, _ => by simp at h
  | v :: vs, s, h, e => by
    unfold wipeD at e
    by_cases hv : v = i
    · subst hv
      by_cases hl : v < (wipeD δ vs).length
      · rw [List.getElem?_set_self hl] at e
        exact (Option.some.inj e).symm
      · rw [List.getElem?_eq_none (by rw [List.length_set]; omega)] at e
        cases e
    · rw [List.getElem?_set_ne hv] at e
      exact wipeD_in ((List.mem_cons.mp h).resolve_left fun z => hv z.symm) e
theorem restore_out {δ0 δe : List Slot} {i : Nat} : ∀ {vs : List Nat}, i ∉ vs → (restore δ0 δe vs)[i]? = δe[i]?
  | [], _ => rfl
  | v :: vs, h => by
    unfold restore
    rw [List.getElem?_set_ne (fun z => h (by rw [z]; exact List.mem_cons_self)), restore_out fun z => h (List.mem_cons_of_mem _ z)]
theorem restore_in {δ0 δe : List Slot} {i : Nat} : ∀ {vs : List Nat} {s : Slot}, i ∈ vs → (restore δ0 δe vs)[i]? = some s → s = keepV δ0[i]?
  | [], _, h, _ => by simp at h
  | v :: vs, s, h, e => by
    unfold restore at e
    by_cases hv : v = i
    · subst hv
      by_cases hl : v < (restore δ0 δe vs).length
      · rw [List.getElem?_set_self hl] at e
        exact (Option.some.inj e).symm
      · rw [List.getElem?_eq_none (by rw [List.length_set]; omega)] at e
        cases e
    · rw [List.getElem?_set_ne hv] at e
      exact restore_in ((List.mem_cons.mp h).resolve_left fun z => hv z.symm) e
theorem wipe_in {σ : St} {i : Nat} : ∀ {vs : List Nat} {x : Option V}, i ∈ vs → (wipe σ vs)[i]? = some x → x = none
  | [], _, h, _ => by simp at h
  | v :: vs, s, h, e => by
    unfold wipe at e
    by_cases hv : v = i
    · subst hv
      by_cases hl : v < (wipe σ vs).length
      · rw [List.getElem?_set_self hl] at e
        exact (Option.some.inj e).symm
      · rw [List.getElem?_eq_none (by rw [List.length_set]; omega)] at e
        cases e
    · rw [List.getElem?_set_ne hv] at e
      exact wipe_in ((List.mem_cons.mp h).resolve_left fun z => hv z.symm) e
theorem wipe_there {σ : St} {vs : List Nat} {j : Nat} (hj : j ∈ vs) (hl : j < σ.length) : (wipe σ vs)[j]? = some none := by
  have h : j < (wipe σ vs).length := by rw [wipe_length]; exact hl
  have q : (wipe σ vs)[j]? = some ((wipe σ vs)[j]'h) := List.getElem?_eq_getElem h
  rw [q, wipe_in hj q]
theorem wipe_twice (σ : St) (vs : List Nat) : wipe (wipe σ vs) vs = wipe σ vs := by
  apply List.ext_getElem?
  intro j
  by_cases hj : j ∈ vs
  · by_cases hl : j < σ.length
    · rw [wipe_there hj hl, wipe_there hj (by rw [wipe_length]; exact hl)]
    · rw [List.getElem?_eq_none (by rw [wipe_length, wipe_length]; omega), List.getElem?_eq_none (by rw [wipe_length]; omega)]
  · rw [wipe_out hj]
section
variable {Y : Lay} {K : PySem.W.Frag} {vs0 : List V} {F H F' H' : Hp} {σ : St} {δ : List Slot} {w : Wn}
def Wn.offs (w : Wn) (vs : List Nat) : Wn := fun j => if j ∈ vs then [] else w j
theorem Wn.offs_sub {w : Wn} {vs : List Nat} {j : Nat} {p : Addr} (h : p ∈ w.offs vs j) : p ∈ w j := by
  unfold Wn.offs at h
  split at h
  · simp at h
  · exact h
theorem Wn.offs_has {w : Wn} {vs : List Nat} {p : Addr} (h : (w.offs vs).has p) : w.has p := let ⟨j, hj⟩ := h; ⟨j, Wn.offs_sub hj⟩
/-- the block's own names forgotten -/
theorem SOk.wipe (S : SOk Y K vs0 F H σ δ w) (vs : List Nat) : SOk Y K vs0 F H (L2.wipe σ vs) (wipeD δ vs) (w.offs vs) where
  len := by rw [wipeD_len, wipe_length]; exact S.len
  sub := S.sub
  tab := S.tab
  ntb := S.ntb
  at_ := fun j s' e => by
    by_cases hj : j ∈ vs
    · rw [wipeD_in hj e]
      have : w.offs vs j = [] := if_pos hj
      rw [this]
      exact .no
    · rw [wipeD_out hj] at e
      rw [wipe_out hj]
      have : w.offs vs j = w j := if_neg hj
      rw [this]
      exact S.at_ j s' e
  emp := fun j e => by
    by_cases hj : j ∈ vs
    · exact if_pos hj
    · rw [wipeD_out hj] at e
      have : w.offs vs j = w j := if_neg hj
      rw [this]
      exact S.emp j e
  nof := fun j p h => S.nof j p (Wn.offs_sub h)
  dis := fun j k p h1 h2 => S.dis j k p (Wn.offs_sub h1) (Wn.offs_sub h2)
  par := fun j v o h1 h2 => by
    by_cases hj : j ∈ vs
    · cases wipeD_in hj h2
    · rw [wipeD_out hj] at h2
      rw [wipe_out hj]
      exact S.par j v o h1 h2
/-- .. and told again -/
theorem SOk.unwipe {δ0 δe : List Slot} {w0 we : Wn} {vs : List Nat} (S : SOk Y K vs0 F H σ δ0 w0) (ff : Grw F F') (E : SOk Y K vs0 F' H' (L2.wipe σ vs) (wipeD δe vs) we) : SOk Y K vs0 F' H' σ (restore δ0 δe vs) we where
  len := by
    have := E.len
    rw [wipeD_len, wipe_length] at this
    rw [restore_len]
    exact this
  sub := E.sub
  tab := E.tab
  ntb := E.ntb
  at_ := fun j s' e => by
    by_cases hj : j ∈ vs
    · have ee : ∃ s, (wipeD δe vs)[j]? = some s := by
        have hl : j < (restore δ0 δe vs).length := (List.getElem?_eq_some_iff.mp e).1
        rw [restore_len] at hl
        exact ⟨_, List.getElem?_eq_getElem (by rw [wipeD_len]; exact hl)⟩
      obtain ⟨s, es⟩ := ee
      have hw := E.at_ j s es
      rw [wipeD_in hj es] at hw
      have w0' : we j = [] := by
        generalize we j = wj at hw
        generalize (L2.wipe σ vs)[j]?.join = xj at hw
        cases hw
        rfl
      rw [w0', restore_in hj e]
      cases q : δ0[j]? with
      | none => exact .no
      | some s0 =>
        cases s0 with
        | val d =>
          obtain ⟨v, h1, h2⟩ := S.valD q
          rw [h1]
          exact .val (dp_ext ff h2)
        | pin => exact .no
        | no => exact .no
        | own o => exact .no
    · rw [restore_out hj] at e
      have := E.at_ j s' (by rw [wipeD_out hj]; exact e)
      rw [wipe_out hj] at this
      exact this
  emp := fun j e => E.emp j (by
    rw [List.getElem?_eq_none_iff] at e ⊢
    rw [restore_len] at e
    rw [wipeD_len]
    exact e)
  nof := E.nof
  dis := E.dis
  par := fun j v o h1 h2 => by
    by_cases hj : j ∈ vs
    · have := restore_in hj h2
      cases q : δ0[j]? with
      | none => rw [q] at this; cases this
      | some s0 => rw [q] at this; cases s0 <;> cases this
    · rw [restore_out hj] at h2
      have := E.par j v o h1 (by rw [wipeD_out hj]; exact h2)
      rw [wipe_out hj] at this
      exact this
/-- a list that is neither for good nor owned is changed -/
theorem SOk.updP (S : SOk Y K vs0 F H σ δ w) {p : Addr} {a b : List V} (hp : H p = some (.lst a)) (nF : F p = none) (nw : ¬ w.has p) : SOk Y K vs0 F (upd H p (.lst b)) σ δ w where
  len := S.len
  sub := fun c o e => by rw [upd_ne (ne_of_none e nF)]; exact S.sub c o e
  tab := fun q hq => by
    obtain ⟨ps, h1, h2, h3⟩ := S.tab q hq
    have ne : ∀ {c : Addr} {o : HO}, H c = some o → (∀ xs, o ≠ .lst xs) → c ≠ p := fun {c o} e n z => by
      rw [z, hp] at e
      exact n a (Option.some.inj e).symm
    refine ⟨ps, by rw [upd_ne (ne h1 fun _ z => by cases z)]; exact h1, h2, fun pos cv hc => ?_⟩
    obtain ⟨c, e1, e2⟩ := h3 pos cv hc
    exact ⟨c, e1, by rw [upd_ne (ne e2 fun _ z => by unfold LamX.CodeO at z; cases z)]; exact e2⟩
  ntb := S.ntb
  at_ := fun i s e => slot_ext (Grw.refl F) (fun c hc ho h _ => by rw [upd_ne (fun z => nw ⟨i, by rw [← z]; exact hc⟩)]; exact h) (S.at_ i s e)
  emp := S.emp
  nof := S.nof
  dis := S.dis
  par := S.par
theorem Step.updD {W W' : Addr → Prop} (g : Step W F H F' H' W') {p : Addr} {o : HO} (h0 : H p = none) : Step W F H F' (upd H' p o) W' :=
  ⟨g.ff, fun b u n h t => by rw [upd_ne (ne_of_none h h0)]; exact g.keep b u n h t, fun b h => by
    by_cases hb : b = p
    · rw [hb, upd_same]; simp
    · rw [upd_ne hb]; exact g.live b h, g.prot, g.ownd⟩
end
section
variable {X : Cx} {C : Lx} {Wx : WX} {tg iter elt : Expr} {ifs : List Expr} {mi : M (List PyData)} {mt : M Bool} {me : M PyData} {t : Tg} {pos : Pos} {scope : Scope}
abbrev W0 : WX := fun _ _ _ _ => False
/-- what a turn of a comprehension's loop does -/
theorem lc_turns {Wx' : WX} {σ : St} {vs : List Nat} {ds ys : List PyData} {δ1 δe : List Slot} {w1 : Wn} {F1 H1 : Hp} {J : It} {D : Addr} {Qd : Hp → Prop} (hJ : ItD C.K F1 J ds) (hD : H1 D = none) (S1 : C.ok F1 H1 σ δ1 w1) (hz : ds.length ≤ 1000000)
    (hm : mcloop vs t mt me ds δ1 = some (ys, δe)) (ht : ∀ j ∈ t.slots, j ∈ vs)
    (hd : ∀ w' F' H' vs', C.ok F' H' σ (restore δ1 δe vs) w' → Step w1.has F1 H1 F' H' w'.has → H' D = some (.lst vs') → F' D = none → ¬ w'.has D → DpAll C.K F' vs' ys → Qd H') :
    ∃ W : Nat → Nat → Hp → Prop, (∃ m, W 0 m (upd H1 D (.lst []))) ∧ ∀ i m H, W i m H →
      (J.stop i H ∧ Qd H) ∨ (J.go i H ∧ ∃ Nx : Hp → Prop, (∀ H', Nx H' → ∃ m', m' < m ∧ W (i + 1) m' H') ∧ ∀ x H', J.yld i H x H' → tG C t x (L2.wipe σ vs) H' fun σ2 H2 => L2.wipe σ2 vs = L2.wipe σ vs ∧ tT C W0 mt σ2 H2 fun b H3 =>
        if b = true then tE C W0 me σ2 H3 fun y H4 => ∃ acc, H4 D = some (.lst acc) ∧ acc.length < sizeLine ∧ Nx (upd H4 D (.lst (acc ++ [y]))) else Nx H3) := by
  refine ⟨fun i m H => m = ds.length - i ∧ i ≤ ds.length ∧ ∃ acc rest δ2 w2 F2 va, C.ok F2 H (L2.wipe σ vs) (wipeD δ2 vs) w2 ∧ Step w1.has F1 H1 F2 H w2.has ∧ H D = some (.lst va) ∧ F2 D = none ∧ ¬ w2.has D ∧ DpAll C.K F2 va acc ∧ acc.length ≤ i ∧
    mcloop vs t mt me (ds.drop i) δ2 = some (rest, δe) ∧ acc ++ rest = ys, ⟨ds.length, by simp, Nat.zero_le _, [], ys, δ1, w1.offs vs, F1, [], ?_, ?_, upd_same, S1.sub.none hD, fun z => S1.there (Wn.offs_has z) hD, .nil, Nat.le_refl _, hm, rfl⟩, ?_⟩
  · exact (S1.wipe vs).alc (Alc.grwL S1.sub hD)
  · exact (Step.refl fun _ h => Wn.offs_has h).updD hD
  rintro i m H ⟨rfl, hi, acc, rest, δ2, w2, F2, va, S2, g2, hv, nF, nw, ha, hl, hm2, e2⟩
  by_cases hlt : i < ds.length
  · refine .inr ⟨hJ.go i F2 H g2.ff S2.sub hlt, fun H' => ∃ acc rest δ2 w2 F2 va, C.ok F2 H' (L2.wipe σ vs) (wipeD δ2 vs) w2 ∧ Step w1.has F1 H1 F2 H' w2.has ∧ H' D = some (.lst va) ∧ F2 D = none ∧ ¬ w2.has D ∧ DpAll C.K F2 va acc ∧ acc.length ≤ i + 1 ∧
      mcloop vs t mt me (ds.drop (i + 1)) δ2 = some (rest, δe) ∧ acc ++ rest = ys, fun H' h' => ⟨ds.length - (i + 1), by omega, rfl, hlt, h'⟩, ?_⟩
    intro x H3 hy
    obtain ⟨F3, d, al, hd', hx⟩ := hJ.yld i F2 H x H3 g2.ff S2.sub hlt hy
    have ed : ds.drop i = d :: ds.drop (i + 1) := by
      rw [List.drop_eq_getElem_cons hlt]
      rw [List.getElem?_eq_getElem hlt] at hd'
      rw [Option.some.inj hd']
    rw [ed] at hm2
    simp only [mcloop] at hm2
    cases eb : bindT t d (wipeD δ2 vs) with
    | none => rw [eb] at hm2; cases hm2
    | some δb =>
      rw [eb] at hm2
      dsimp only at hm2
      have hv3 : H3 D = some (.lst va) := al.hh D _ hv
      have nF3 : F3 D = none := al.prot D (by rw [hv]; simp) nF
      refine ⟨_, w2, F3, d, δb, S2.alc al, hx, eb, fun σ' w' S' gs wz => ⟨?_, ?_⟩⟩
      · exact (wz vs ht).trans (wipe_twice σ vs)
      · have gA : Step w1.has F1 H1 F3 H3 w'.has := (g2.trans (al.step w2.has w2.has fun _ h => h)).trans (Step.sub gs)
        have nw' : ¬ w'.has D := fun z => nw (gs D z)
        have ew : L2.wipe σ' vs = L2.wipe σ vs := (wz vs ht).trans (wipe_twice σ vs)
        refine ⟨δb, w', F3, S', ?_⟩
        simp only [tAt]
        cases em : mt δb with
        | none => rw [em] at hm2; cases hm2
        | some r =>
          rw [em] at hm2
          cases r with
          | ex c δ' => cases hm2
          | ok k δ4 =>
            intro w4 F4 H4 S4 g4
            have k4 : H4 D = some (.lst va) := g4.keep D _ nw' hv3 (fun ps z => by cases z)
            have n4 : F4 D = none := g4.prot D (by rw [hv3]; simp) nF3 nw'
            have nw4 : ¬ w4.has D := fun z => (g4.ownd D z).elim nw' fun q => by rw [hv3] at q; cases q
            cases k with
            | false =>
              rw [if_neg Bool.false_ne_true]
              refine ⟨acc, rest, δ4, w4.offs vs, F4, va, ?_, (gA.trans g4).trans (Step.sub fun _ h => Wn.offs_has h), k4, n4, fun z => nw4 (Wn.offs_has z), dps_ext (al.ff.trans g4.ff) ha, by omega, hm2, e2⟩
              rw [← ew]
              exact S4.wipe vs
            | true =>
              rw [if_pos rfl]
              refine ⟨δ4, w4, F4, S4, ?_⟩
              simp only [tAt]
              dsimp only at hm2
              cases em2 : me δ4 with
              | none => rw [em2] at hm2; cases hm2
              | some r2 =>
                rw [em2] at hm2
                cases r2 with
                | ex c δ' => cases hm2
                | ok y δ5 =>
                  dsimp only at hm2
                  intro w5 F5 H5 S5 g5 v hvy
                  have k5 : H5 D = some (.lst va) := g5.keep D _ nw4 k4 (fun ps z => by cases z)
                  have n5 : F5 D = none := g5.prot D (by rw [k4]; simp) n4 nw4
                  have nw5 : ¬ w5.has D := fun z => (g5.ownd D z).elim nw4 fun q => by rw [k4] at q; cases q
                  have ha5 := dps_ext ((al.ff.trans g4.ff).trans g5.ff) ha
                  refine ⟨va, k5, small_lt (by rw [dps_len ha]; omega), ?_⟩
                  cases er : mcloop vs t mt me (ds.drop (i + 1)) δ5 with
                  | none => rw [er] at hm2; cases hm2
                  | some r3 =>
                    obtain ⟨ys3, δ6⟩ := r3
                    rw [er] at hm2
                    cases hm2
                    refine ⟨acc ++ [y], ys3, δ5, w5.offs vs, F5, va ++ [v], ?_, ((((gA.trans g4).trans g5).updD hD).trans (Step.sub fun _ h => Wn.offs_has h)), upd_same, n5, fun z => nw5 (Wn.offs_has z), dps_app ha5 (.cons hvy .nil), by rw [List.length_append, List.length_singleton]; omega, er, by rw [List.append_assoc]; exact e2⟩
                    rw [← ew]
                    exact (S5.wipe vs).updP k5 n5 fun z => nw5 (Wn.offs_has z)
  · have e : i = ds.length := by omega
    subst e
    rw [List.drop_length] at hm2
    simp only [mcloop] at hm2
    cases hm2
    rw [List.append_nil] at e2
    subst e2
    exact .inl ⟨hJ.stop F2 H g2.ff S2.sub, hd w2 F2 H va (S1.unwipe g2.ff S2) g2 hv nF nw ha⟩
theorem lc_tO {own : List (Str × Nat)} {vs : List Nat} {σ : St} {H : Hp} {Q : VK} (hvs : own.map (·.2) = vs) (ht : ∀ j ∈ t.slots, j ∈ vs) (h : tO C Wx (mcomp mi vs t mt me) σ H Q) : tLc (tI C Wx mi) (tG C t) (tT C W0 mt) (tE C W0 me) (own.map (·.2)) σ H Q := by
  obtain ⟨δ, w, F, S, h⟩ := h
  rw [hvs]
  refine ⟨δ, w, F, S, tAt_mono (tAt_bind0 h) fun ds δ1 w1 F1 H1 S1 g1 h1 J hJ => fun D hD => ?_⟩
  simp only [tAt, mcompL] at h1
  split at h1
  · exact False.elim h1
  · rename_i ys δr e1
    split at e1
    · rename_i hz
      split at e1
      · rename_i ys' δe hm
        cases e1
        have h0 : H D = none := by
          cases q : H D with
          | none => rfl
          | some o => exact absurd hD (g1.live D (by rw [q]; simp))
        exact lc_turns (Wx' := Wx) hJ hD S1 hz hm ht fun w' F' H' vs' S' g' hp nF nw hv => h1 w' F' H' S' (g1.trans g') D vs' h0 hp nF nw hv
      · cases e1
    · cases e1
  · rename_i c δr e1
    split at e1
    · split at e1
      · cases e1
      · cases e1
    · cases e1
/-- [elt for tg in iter if ..] -/
theorem po_lc (own : List (Str × Nat)) (vs : List Nat) (hc : X.calm = true) (hN : X.N.Nodup) (hi : PId X C Wx tg iter mi) (hvs : own.map (·.2) = vs) (ht : ∀ j ∈ t.slots, j ∈ vs) (ok : BlkOk X.N X.env.scope scope own)
    (hg : ∀ (s : Shared) (H : Hp) (Cc : Addr) (cl : List (Str × Addr)) (fp : List Addr), PG (X.blk s H scope (compEnvC scope cl Cc X.env) fp) tg (tG C t)) (hts : ∀ (s : Shared) (H : Hp) (Cc : Addr) (cl : List (Str × Addr)) (fp : List Addr), PTs (X.blk s H scope (compEnvC scope cl Cc X.env) fp) ifs (tT C W0 mt))
    (he : ∀ (s : Shared) (H : Hp) (Cc : Addr) (cl : List (Str × Addr)) (fp : List Addr), PE (X.blk s H scope (compEnvC scope cl Cc X.env) fp) elt (tE C W0 me)) (hs : ∀ x, foldedSetIterable iter X.env x = pure x := by intro _; rfl) :
    PO X C Wx (.ListComp elt [⟨tg, iter, ifs, 0⟩] scope pos) (mcomp mi vs t mt me) :=
  pe_weak (pe_lc hc hN hi ok hg hts he hs) fun σ H Q q => lc_tO hvs ht q
theorem pts_yes : PTs X [] (tT C Wx mtrue) := ⟨fun pins s σ H Q I h => pts_nil.run pins s σ H Q I (by
  obtain ⟨δ, w, F, S, h⟩ := h
  exact h w F H S S.here)⟩
theorem pts_if {c : Expr} {mc : M Bool} (h : PB X C Wx c mc) : PTs X [c] (tT C Wx mc) := pts_one h
end
end RH

/-! The data layer, part 7: defs and their calls. -/
namespace RH
open PySem PySem.Spec L2

inductive Out where
  | ok (d : PyData) (ss : List Slot)
  | ex (c : Nat) (ss : List Slot)
/-- a def as a function of its arguments -/
abbrev Phi := List Slot → Option Out
abbrev ArgOk (Y : Lay) (K : PySem.W.Frag) (F H : Hp) (vs : List V) (ss : List Slot) (w : Wn) : Prop := SOk Y K [] F H (vs.map some) ss w
/-- the promise: what φ tells -/
def spD (Y : Lay) (K : PySem.W.Frag) (n : Nat) (φ : Phi) : Sp := fun vs H Q E => vs.length = n ∧ ∃ ss w F, ArgOk Y K F H vs ss w ∧ match φ ss with
  | none => False
  | some (.ok d ss') => ∀ v F' H' w', ArgOk Y K F' H' vs ss' w' → Step w.has F H F' H' w'.has → Dp K F' v d → Q v H'
  | some (.ex c ss') => ∀ F' H' w', ArgOk Y K F' H' vs ss' w' → Step w.has F H F' H' w'.has → E (.ref (Y.ex c)) none H'
/-- a def that tells no more -/
def PLe (φ ψ : Phi) : Prop := ∀ ss o, φ ss = some o → ψ ss = some o
theorem spD_le {Y : Lay} {K : PySem.W.Frag} {n : Nat} {φ ψ : Phi} (h : PLe φ ψ) (vs : List V) (H : Hp) (Q : VK) (E : XK) (q : spD Y K n φ vs H Q E) : spD Y K n ψ vs H Q E := by
  obtain ⟨hl, ss, w, F, S, q⟩ := q
  refine ⟨hl, ss, w, F, S, ?_⟩
  cases e : φ ss with
  | none => rw [e] at q; exact q.elim
  | some o =>
    rw [h ss o e]
    rw [e] at q
    exact q
def outS1 : Slot → Option Slot → Slot
  | .val d, _ => .val d
  | .own _, some (.own o) => .own o
  | _, _ => .no
def outS : List Slot → List Slot → List Slot
  | [], _ => []
  | s :: ss, [] => outS1 s none :: outS ss []
  | s :: ss, t :: δ => outS1 s (some t) :: outS ss δ
theorem outS_len : ∀ (ss δ : List Slot), (outS ss δ).length = ss.length
  | [], _ => rfl
  | _ :: ss, [] => congrArg (· + 1) (outS_len ss [])
  | _ :: ss, _ :: δ => congrArg (· + 1) (outS_len ss δ)
theorem outS_at : ∀ (ss δ : List Slot) (i : Nat) {s : Slot}, ss[i]? = some s → (outS ss δ)[i]? = some (outS1 s δ[i]?)
  | [], _, _, _, h => by simp at h
  | _ :: ss, [], 0, _, h => by simp at h; subst h; simp [outS]
  | _ :: ss, [], i + 1, s, h => by
    have := outS_at ss [] i (s := s) (by simpa using h)
    simpa [outS] using this
  | _ :: ss, t :: δ, 0, _, h => by simp at h; subst h; simp [outS]
  | _ :: ss, t :: δ, i + 1, s, h => by
    have := outS_at ss δ i (s := s) (by simpa using h)
    simpa [outS] using this
/-- a body, k names beside the parameters -/
def fnPhi (k : Nat) (m : MS) : Phi := fun ss => match m (ss ++ List.replicate k .no) with
  | none => none
  | some (.nx δ) => some (.ok .none (outS ss δ))
  | some (.rt d δ) => some (.ok d (outS ss δ))
  | some (.ex c δ) => some (.ex c (outS ss δ))
section
variable {Y : Lay} {K : PySem.W.Frag} {F H F' H' : Hp} {vs : List V} {ss δ : List Slot} {σ : St} {w w' : Wn}
theorem argOk_start (S : ArgOk Y K F H vs ss w) (k : Nat) : SOk Y K vs F H (vs.map some ++ List.replicate k none) (ss ++ List.replicate k .no) w where
  len := by
    have := S.len
    simp only [List.length_append, List.length_replicate, this]
  sub := S.sub
  tab := S.tab
  ntb := S.ntb
  at_ := fun i s e => by
    have hlen := S.len
    by_cases hi : i < ss.length
    · rw [List.getElem?_append_left hi] at e
      rw [List.getElem?_append_left (by rw [← hlen]; exact hi)]
      exact S.at_ i s e
    · rw [List.getElem?_append_right (by omega), List.getElem?_replicate] at e
      split at e
      · cases e
        rw [S.emp i (List.getElem?_eq_none (by omega))]
        exact .no
      · cases e
  emp := fun i e => S.emp i (by
    rw [List.getElem?_eq_none_iff] at e ⊢
    rw [List.length_append] at e
    omega)
  nof := S.nof
  dis := S.dis
  par := fun i v o h1 h2 => by
    have hlen := S.len
    have hi : i < vs.length := (List.getElem?_eq_some_iff.mp h1).1
    rw [List.getElem?_append_left (by rw [List.length_map]; exact hi), List.getElem?_map, h1]
    rfl
def backW (ss δ : List Slot) (w : Wn) : Wn := fun i => match ss[i]?, δ[i]? with
  | some (.own _), some (.own _) => w i
  | _, _ => []
theorem backW_sub {i : Nat} {p : Addr} (h : p ∈ backW ss δ w i) : p ∈ w i := by
  unfold backW at h
  split at h
  · exact h
  · simp at h
theorem backW_has {p : Addr} (h : (backW ss δ w).has p) : w.has p := let ⟨j, hj⟩ := h; ⟨j, backW_sub hj⟩
theorem argOk_end (S0 : ArgOk Y K F H vs ss w) (g : Grw F F') (S : SOk Y K vs F' H' σ δ w') : ArgOk Y K F' H' vs (outS ss δ) (backW ss δ w') where
  len := by rw [outS_len]; exact S0.len
  sub := S.sub
  tab := S.tab
  ntb := S.ntb
  at_ := fun i s e => by
    have hi : i < ss.length := by
      have := (List.getElem?_eq_some_iff.mp e).1
      rw [outS_len] at this
      exact this
    have es : ss[i]? = some ss[i] := List.getElem?_eq_getElem hi
    rw [outS_at ss δ i es] at e
    have e' := Option.some.inj e
    have h0 := S0.at_ i _ es
    have hv : i < vs.length := by
      have := S0.len
      rw [List.length_map] at this
      omega
    have ev : vs[i]? = some vs[i] := List.getElem?_eq_getElem hv
    have em : (vs.map some)[i]?.join = some vs[i] := by rw [List.getElem?_map, ev]; rfl
    rw [em] at h0 ⊢
    generalize ss[i] = si at *
    generalize hvi : vs[i] = vi at *
    cases si with
    | no =>
      have hw : backW ss δ w' i = [] := by unfold backW; rw [es]
      rw [hw, ← e']
      exact .no
    | pin =>
      have hw : backW ss δ w' i = [] := by unfold backW; rw [es]
      rw [hw, ← e']
      exact .no
    | val d =>
      have hw : backW ss δ w' i = [] := by unfold backW; rw [es]
      rw [hw, ← e']
      generalize w i = wi at h0
      cases h0 with
      | val h => exact .val (dp_ext g h)
    | own o =>
      cases q : δ[i]? with
      | none =>
        have hw : backW ss δ w' i = [] := by unfold backW; rw [es, q]
        rw [hw, ← e', q]
        exact .no
      | some t =>
        cases t with
        | no =>
          have hw : backW ss δ w' i = [] := by unfold backW; rw [es, q]
          rw [hw, ← e', q]
          exact .no
        | val d =>
          have hw : backW ss δ w' i = [] := by unfold backW; rw [es, q]
          rw [hw, ← e', q]
          exact .no
        | pin =>
          have hw : backW ss δ w' i = [] := by unfold backW; rw [es, q]
          rw [hw, ← e', q]
          exact .no
        | own o' =>
          have hw : backW ss δ w' i = w' i := by unfold backW; rw [es, q]
          rw [hw, ← e', q]
          have h1 := S.at_ i _ q
          rw [S.par i vi o' ev q] at h1
          exact h1
  emp := fun i e => by
    have : ss[i]? = none := by
      rw [List.getElem?_eq_none_iff] at e ⊢
      rw [outS_len] at e
      exact e
    unfold backW
    rw [this]
  nof := fun i p h => S.nof i p (backW_sub h)
  dis := fun i j p h1 h2 => S.dis i j p (backW_sub h1) (backW_sub h2)
  par := fun i v o h1 h2 => by simp at h1
end

/-! ### a def keeps its promise -/
abbrev wOf (E : XK) : WX := fun cls d _ H => E cls d H
section
variable {P : Program} {w : World} {K : PySem.W.Frag} {mg : Str → Option Value} {base : Heap}
theorem okN {x qual : Str} {st : Stmt} {f : Addr} {fd : FuncData} {N ps : List Str} {k : Nat} {sp : Sp} (F : Fun K x qual st f fd) (S : FnScope N ps (defScope st)) (len : ∀ vs H Q E, sp vs H Q E → vs.length = ps.length)
    (hbody : ∀ (cdv : Value) (A : Around) (outer : List Env) (s : Shared) (H : Hp) (vs : List V) (Q : VK) (E : XK), Room k (A.deeper (PyProof.Rows.envOfC qual (defScope st) s.heap.objs.size f cdv)) → sp vs H Q E →
      ∃ t, PSs (cxOf (L2N.CX P w) P w K mg base N qual (defScope st) f cdv A outer s H E) (defBody st) t ∧ t { nx := fun _ H' => Q .non H', rt := Q } (L2.start N vs) H) : FnOk P w K mg base (L2N.CX P w) (k + 1) f fd ps sp := by
  obtain ⟨oc, od, kV, doc, pm, an, cdv, ct, osl, rfl, lk, hcd⟩ := F.ex
  exact fn_of lk hcd S len fun A outer s H vs Q E hr hsp => hbody cdv A outer s H vs Q E hr hsp
theorem fn_data (Y : Lay) {x qual : Str} {st : Stmt} {f : Addr} {fd : FuncData} {N ps : List Str} {k : Nat} {m : MS} (FN : Fun K x qual st f fd) (S : FnScope N ps (defScope st))
    (hb : ∀ (cdv : Value) (A : Around) (outer : List Env) (s : Shared) (H : Hp) (vs : List V) (E : XK), Room k (A.deeper (PyProof.Rows.envOfC qual (defScope st) s.heap.objs.size f cdv)) → vs.length = ps.length →
      PBd (cxOf (L2N.CX P w) P w K mg base N qual (defScope st) f cdv A outer s H E) ⟨Y, K, vs⟩ (wOf E) (defBody st) m) :
    FnOk P w K mg base (L2N.CX P w) (k + 1) f fd ps (spD Y K ps.length (fnPhi (N.length - ps.length) m)) := by
  refine okN FN S (fun vs H Q E h => h.1) fun cdv A outer s H vs Q E hr h => ⟨_, hb cdv A outer s H vs E hr h.1, ?_⟩
  obtain ⟨hl, ss, w0, F, SA, q⟩ := h
  have ek : N.length - vs.length = N.length - ps.length := by rw [hl]
  refine ⟨ss ++ List.replicate (N.length - ps.length) .no, w0, F, ?_, ?_⟩
  · show SOk Y K vs F H (L2.start N vs) _ w0
    unfold L2.start
    rw [ek]
    exact argOk_start SA _
  · unfold fnPhi at q
    simp only [tStAt]
    cases e : m (ss ++ List.replicate (N.length - ps.length) .no) with
    | none => rw [e] at q; exact q.elim
    | some r =>
      rw [e] at q
      cases r with
      | nx δ => exact fun σ' w' F' H' S' g => q .non F' H' _ (argOk_end SA g.ff S') (g.mono (fun _ h => h) fun b h => .inl (backW_has h)) .non
      | rt d δ => exact fun v σ' w' F' H' S' g hv => q v F' H' _ (argOk_end SA g.ff S') (g.mono (fun _ h => h) fun b h => .inl (backW_has h)) hv
      | ex c δ => exact fun σ' w' F' H' S' g => q F' H' _ (argOk_end SA g.ff S') (g.mono (fun _ h => h) fun b h => .inl (backW_has h))
theorem fn_le {Y : Lay} {CX : CXT} {k n : Nat} {f : Addr} {fd : FuncData} {ps : List Str} {φ ψ : Phi} (G : FnOk P w K mg base CX k f fd ps (spD Y K n ψ)) (h : PLe φ ψ) : FnOk P w K mg base CX k f fd ps (spD Y K n φ) := G.imp (spD_le h)
end

/-! ### calls -/
/-- a call, all arguments values -/
def mcall (n : Nat) (φ : Phi) (ms : M (List PyData)) : M PyData := mbind ms fun ds δ => if ds.length = n then (match φ (ds.map .val) with
  | some (.ok d _) => some (.ok d δ)
  | some (.ex c _) => some (.ex c δ)
  | none => none) else none
/-- a call whose first argument is the owned object of slot i -/
def mcallO (n : Nat) (φ : Phi) (i : Nat) (ms : M (List PyData)) : M PyData := fun δ0 => match δ0[i]? with
  | some (.own _) => mbind ms (fun ds δ => if ds.length + 1 = n then (match δ[i]? with
    | some (.own o) => (match φ (.own o :: ds.map .val) with
      | some (.ok d (s :: _)) => some (.ok d (δ.set i s))
      | some (.ex c (s :: _)) => some (.ex c (δ.set i s))
      | _ => none)
    | _ => none) else none) δ0
  | _ => none
section
variable {X : Cx} {C : Lx} {Wx : WX} {k n : Nat} {f : Addr} {fd : FuncData} {ps : List Str} {φ : Phi} {x : Str} {p pos : Pos} {e : Expr} {es : List Expr} {ms : M (List PyData)}
theorem argOk_vals {Y : Lay} {K : PySem.W.Frag} {vs0 : List V} {F H : Hp} {σ : St} {δ : List Slot} {w : Wn} (S : SOk Y K vs0 F H σ δ w) {vs : List V} {ds : List PyData} (h : DpAll K F vs ds) : ArgOk Y K F H vs (ds.map .val) fun _ => [] where
  len := by rw [List.length_map, List.length_map, dps_len h]
  sub := S.sub
  tab := S.tab
  ntb := S.ntb
  at_ := fun i s e => by
    rw [List.getElem?_map] at e
    cases q : ds[i]? with
    | none => rw [q] at e; cases e
    | some d =>
      rw [q] at e
      cases e
      obtain ⟨v, h1, h2⟩ := dps_at h q
      rw [List.getElem?_map, h1]
      exact .val h2
  emp := fun _ _ => rfl
  nof := fun _ _ h => by simp at h
  dis := fun _ _ _ h => by simp at h
  par := fun _ _ _ h => by simp at h
/-- behind a callee that owned nothing -/
theorem SOk.called {Y : Lay} {K : PySem.W.Frag} {vs0 : List V} {F H F' H' : Hp} {σ : St} {δ : List Slot} {w : Wn} {ws : Wn} {vs : List V} {ss : List Slot} (S : SOk Y K vs0 F H σ δ w) (A : ArgOk Y K F' H' vs ss ws) (g : Step (Wn.has fun _ => []) F H F' H' ws.has) : SOk Y K vs0 F' H' σ δ w where
  len := S.len
  sub := A.sub
  tab := A.tab
  ntb := A.ntb
  at_ := fun i s e => slot_ext g.ff (fun p hp ho h t => g.keep p ho (fun ⟨_, z⟩ => by simp at z) h t) (S.at_ i s e)
  emp := S.emp
  nof := fun i p h => g.prot p (S.there ⟨i, h⟩) (S.nof i p h) fun ⟨_, z⟩ => by simp at z
  dis := S.dis
  par := S.par
theorem pd_call (FN : FnOk X.prog X.w X.K X.mg X.base (L2N.CX X.prog X.w) k f fd ps (spD C.Y C.K n φ)) (hr : Room k X.A) (tk : L2N.Takes X Wx) (hm : X.mg x = some (.ref f)) (hk : PySem.W.keepIn X.K (.ref f) = true) (hb : Binds X.K fd ps []) (ha : PL X C Wx (e :: es) ms) (hg : Gl X x := by rfl)
    (hdb : (x == ("__debug__" : Str)) = false := by decide) (he : starEach (e :: es) X.env = (false, eval e X.env) :: starEach es X.env := by rfl) (hpl : (backTo pos (starEach es X.env)).any (·.1) = false := by rfl) :
    PD X C Wx (.Call (.Name x p) (e :: es) [] pos) (mcall n φ ms) := by
  refine pe_weak (pe_callS FN hr hg hm hk hb (fun σ => L2N.passAt tk σ) ha hdb he hpl) fun σ H Q q => tE_use q fun δ w F S h => ?_
  refine ⟨δ, w, F, S, tAt_mono (tAt_bind h) fun ds δ1 w1 F1 H1 S1 g1 h1 vs hvs => ?_⟩
  simp only [tAt] at h1
  split at h1
  · exact h1.elim
  · rename_i a δ' e1
    split at e1
    · rename_i hl
      refine ⟨by rw [dps_len hvs]; exact hl, ds.map .val, fun _ => [], F1, argOk_vals S1 hvs, ?_⟩
      cases e2 : φ (ds.map .val) with
      | none => rw [e2] at e1; cases e1
      | some o =>
        rw [e2] at e1
        cases o with
        | ex => cases e1
        | ok d ss =>
          cases e1
          exact fun v F' H' w' A g hv => h1 w1 F' H' (S1.called A g) (g.mono (fun b ⟨_, z⟩ => by simp at z) fun b z => .inr z) v hv
    · cases e1
  · rename_i c δ' e1
    split at e1
    · rename_i hl
      refine ⟨by rw [dps_len hvs]; exact hl, ds.map .val, fun _ => [], F1, argOk_vals S1 hvs, ?_⟩
      cases e2 : φ (ds.map .val) with
      | none => rw [e2] at e1; cases e1
      | some o =>
        rw [e2] at e1
        cases o with
        | ok => cases e1
        | ex c' ss =>
          cases e1
          exact fun F' H' w' A g => h1 w1 F' H' (S1.called A g) (g.mono (fun b ⟨_, z⟩ => by simp at z) fun b z => .inr z)
    · cases e1
/-- the arguments of a call: one owned object, then values -/
theorem argOk_own {Y : Lay} {K : PySem.W.Frag} {vs0 : List V} {F H : Hp} {σ : St} {δ : List Slot} {w : Wn} (S : SOk Y K vs0 F H σ δ w) {i : Nat} {o : Own} {v : V} (ho : δ[i]? = some (.own o)) (hv : σ[i]? = some (some v)) {vs : List V} {ds : List PyData} (h : DpAll K F vs ds) :
    ArgOk Y K F H (v :: vs) (.own o :: ds.map .val) fun j => if j = 0 then w i else [] where
  len := by simp [dps_len h]
  sub := S.sub
  tab := S.tab
  ntb := S.ntb
  at_ := fun j s e => by
    cases j with
    | zero =>
      have e' : Slot.own o = s := by simpa using e
      subst e'
      have := S.at_ i _ ho
      rw [hv] at this
      exact this
    | succ j =>
      have e' : (ds.map Slot.val)[j]? = some s := by simpa using e
      rw [List.getElem?_map] at e'
      cases q : ds[j]? with
      | none => rw [q] at e'; cases e'
      | some d =>
        rw [q] at e'
        cases e'
        obtain ⟨u, h1, h2⟩ := dps_at h q
        have : ((v :: vs).map some)[j + 1]?.join = some u := by simp [h1]
        rw [this, if_neg (Nat.succ_ne_zero j)]
        exact .val h2
  emp := fun j e => by
    cases j with
    | zero => simp at e
    | succ j => rfl
  nof := fun j p hp => by
    by_cases hj : j = 0
    · rw [if_pos hj] at hp
      exact S.nof i p hp
    · rw [if_neg hj] at hp
      simp at hp
  dis := fun j k p h1 h2 => by
    by_cases hj : j = 0
    · by_cases hk : k = 0
      · rw [hj, hk]
      · rw [if_neg hk] at h2
        simp at h2
    · rw [if_neg hj] at h1
      simp at h1
  par := fun _ _ _ h => by simp at h
/-- behind a callee that owned the object of slot i -/
theorem SOk.calledO {Y : Lay} {K : PySem.W.Frag} {vs0 : List V} {F H F' H' : Hp} {σ : St} {δ : List Slot} {w ws : Wn} {i : Nat} {o : Own} {v : V} {vs : List V} {s : Slot} {ss : List Slot} (S : SOk Y K vs0 F H σ δ w) (ho : δ[i]? = some (.own o)) (hv : σ[i]? = some (some v))
    (A : ArgOk Y K F' H' (v :: vs) (s :: ss) ws) (g : Step (Wn.has fun j => if j = 0 then w i else []) F H F' H' ws.has) : SOk Y K vs0 F' H' σ (δ.set i s) (w.put i (ws 0)) ∧ Step w.has F H F' H' (w.put i (ws 0)).has := by
  have il : i < δ.length := (List.getElem?_eq_some_iff.mp ho).1
  have off : ∀ j p, j ≠ i → p ∈ w j → ¬ (Wn.has (fun j => if j = 0 then w i else []) p) := fun j p hj hp ⟨k, hk⟩ => by
    dsimp only at hk
    by_cases k0 : k = 0
    · rw [if_pos k0] at hk
      exact hj (S.dis j i p hp hk)
    · rw [if_neg k0] at hk
      simp at hk
  refine ⟨?_, g.mono (fun b ⟨k, hk⟩ => ?_) fun b hb => ?_⟩
  · exact
      { len := by rw [List.length_set]; exact S.len
        sub := A.sub
        tab := A.tab
        ntb := A.ntb
        at_ := fun j t e => by
          by_cases hj : j = i
          · subst hj
            rw [List.getElem?_set_self il] at e
            cases e
            rw [Wn.put_self, hv]
            exact A.at_ 0 s rfl
          · rw [List.getElem?_set_ne (Ne.symm hj)] at e
            rw [Wn.put_ne hj]
            exact slot_ext g.ff (fun p hp ho h t => g.keep p ho (off j p hj hp) h t) (S.at_ j t e)
        emp := fun j e => by
          by_cases hj : j = i
          · subst hj
            rw [List.getElem?_set_self il] at e
            cases e
          · rw [List.getElem?_set_ne (Ne.symm hj)] at e
            rw [Wn.put_ne hj]
            exact S.emp j e
        nof := fun j p hp => by
          by_cases hj : j = i
          · subst hj
            rw [Wn.put_self] at hp
            exact A.nof 0 p hp
          · rw [Wn.put_ne hj] at hp
            exact g.prot p (S.there ⟨j, hp⟩) (S.nof j p hp) (off j p hj hp)
        dis := fun j k p h1 h2 => by
          have cross : ∀ l, l ≠ i → p ∈ w l → p ∈ ws 0 → False := fun l hl h3 h4 => by
            rcases g.ownd p ⟨0, h4⟩ with q | q
            · exact off l p hl h3 q
            · exact S.there ⟨l, h3⟩ q
          by_cases hj : j = i
          · rw [hj]
            by_cases hk : k = i
            · exact hk.symm
            · rw [hj, Wn.put_self] at h1
              rw [Wn.put_ne hk] at h2
              exact (cross k hk h2 h1).elim
          · rw [Wn.put_ne hj] at h1
            by_cases hk : k = i
            · rw [hk, Wn.put_self] at h2
              exact (cross j hj h1 h2).elim
            · rw [Wn.put_ne hk] at h2
              exact S.dis j k p h1 h2
        par := fun j v' o' h1 h2 => by
          by_cases hj : j = i
          · subst hj
            exact S.par j v' o h1 ho
          · rw [List.getElem?_set_ne (Ne.symm hj)] at h2
            exact S.par j v' o' h1 h2 }
  · dsimp only at hk
    by_cases k0 : k = 0
    · rw [if_pos k0] at hk
      exact ⟨i, hk⟩
    · rw [if_neg k0] at hk
      simp at hk
  · rcases Wn.put_has hb with h | h
    · exact .inl ⟨0, h⟩
    · exact .inr h
theorem SOk.ownV {Y : Lay} {K : PySem.W.Frag} {vs0 : List V} {F H : Hp} {σ : St} {δ : List Slot} {w : Wn} (S : SOk Y K vs0 F H σ δ w) {i : Nat} {o : Own} (e : δ[i]? = some (.own o)) : ∃ p, σ[i]? = some (some (.ref p)) := by
  have h := S.at_ i _ e
  cases q : σ[i]? with
  | none =>
    rw [q] at h
    cases h
  | some v =>
    rw [q] at h
    have h' : SlotOk Y K F H v (.own o) (w i) := h
    generalize w i = wi at h'
    cases h' with
    | own h' => exact ⟨_, rfl⟩
theorem pd_callO {y : Str} {py : Pos} (i : Nat) (FN : FnOk X.prog X.w X.K X.mg X.base (L2N.CX X.prog X.w) k f fd ps (spD C.Y C.K n φ)) (hr : Room k X.A) (tk : L2N.Takes X Wx) (hm : X.mg x = some (.ref f)) (hk : PySem.W.keepIn X.K (.ref f) = true) (hb : Binds X.K fd ps []) (ha : PL X C Wx es ms)
    (hN : X.N[i]? = some y := by rfl) (hv : Vis X.env.scope y := by first | exact Or.inl rfl | exact Or.inr (Or.inl rfl) | exact Or.inr (Or.inr rfl)) (hd : (y == ("__debug__" : Str)) = false := by decide) (hcd : (y == ("__classdict__" : Str)) = false := by decide) (hg : Gl X x := by rfl)
    (hdb : (x == ("__debug__" : Str)) = false := by decide) (he : starEach (.Name y py :: es) X.env = (false, eval (.Name y py) X.env) :: starEach es X.env := by rfl) (hpl : (backTo pos (starEach es X.env)).any (·.1) = false := by rfl) :
    PD X C Wx (.Call (.Name x p) (.Name y py :: es) [] pos) (mcallO n φ i ms) := by
  refine pe_weak (pe_callS FN hr hg hm hk hb (fun σ => L2N.passAt tk σ) (pa_cons (pe_var hN hv hd hcd) ha he) hdb he hpl) fun σ H Q q => tE_use q fun δ w F S h => ?_
  simp only [tAt, mcallO] at h
  cases q0 : δ[i]? with
  | none => rw [q0] at h; exact h.elim
  | some s0 =>
    rw [q0] at h
    cases s0 with
    | no => exact h.elim
    | pin => exact h.elim
    | val => exact h.elim
    | own o0 =>
      obtain ⟨p0, hv0⟩ := S.ownV q0
      refine ⟨.ref p0, hv0, δ, w, F, S, ?_⟩
      refine tAt_mono (tAt_bind (m := ms) h) fun ds δ1 w1 F1 H1 S1 g1 h1 vs hvs => ?_
      simp only [tAt] at h1
      by_cases hl : ds.length + 1 = n
      · rw [if_pos hl] at h1
        cases q1 : δ1[i]? with
        | none => rw [q1] at h1; exact h1.elim
        | some s1 =>
          rw [q1] at h1
          cases s1 with
          | no => exact h1.elim
          | pin => exact h1.elim
          | val => exact h1.elim
          | own o =>
            dsimp only at h1
            refine ⟨by rw [List.length_cons, dps_len hvs]; exact hl, .own o :: ds.map .val, _, F1, argOk_own S1 q1 hv0 hvs, ?_⟩
            cases e2 : φ (.own o :: ds.map .val) with
            | none => rw [e2] at h1; exact h1.elim
            | some o2 =>
              rw [e2] at h1
              cases o2 with
              | ok d ss =>
                cases ss with
                | nil => exact h1.elim
                | cons s ss =>
                  intro v F' H' w' A g hv'
                  obtain ⟨S2, g2⟩ := S1.calledO q1 hv0 A g
                  exact h1 _ F' H' S2 g2 v hv'
              | ex c ss =>
                cases ss with
                | nil => exact h1.elim
                | cons s ss =>
                  intro F' H' w' A g
                  obtain ⟨S2, g2⟩ := S1.calledO q1 hv0 A g
                  exact h1 _ F' H' S2 g2
      · rw [if_neg hl] at h1
        exact h1.elim
end
end RH

/-! The data layer, part 8: owned lists read and changed. -/
namespace RH
open PySem PySem.Spec L2

section
variable {Y : Lay} {K : PySem.W.Frag} {vs0 : List V} {F H F' H' : Hp} {σ : St} {δ : List Slot} {w : Wn}
theorem getq_set {α : Type} {l : List α} {i j : Nat} {a x : α} (h : (l.set i a)[j]? = some x) : (j = i ∧ x = a) ∨ (j ≠ i ∧ l[j]? = some x) := by
  by_cases hj : j = i
  · subst hj
    by_cases hl : j < l.length
    · rw [List.getElem?_set_self hl] at h
      exact .inl ⟨rfl, (Option.some.inj h).symm⟩
    · rw [List.getElem?_eq_none (by rw [List.length_set]; omega)] at h
      cases h
  · rw [List.getElem?_set_ne (Ne.symm hj)] at h
    exact .inr ⟨hj, h⟩
/-- the owned list of slot i is changed -/
theorem SOk.updL (S : SOk Y K vs0 F H σ δ w) {i : Nat} {p : Addr} {xs xs' : List PyData} {vs vs' : List V} (e : δ[i]? = some (.own (.b (.lst xs)))) (hσ : σ[i]? = some (some (.ref p))) (hp : H p = some (.lst vs)) (hw : w i = [p]) (h' : DpAll K F vs' xs') :
    SOk Y K vs0 F (upd H p (.lst vs')) σ (δ.set i (.own (.b (.lst xs')))) w ∧ Step w.has F H F (upd H p (.lst vs')) w.has := by
  have pi : p ∈ w i := by rw [hw]; exact List.mem_singleton_self p
  have nF : F p = none := S.nof i p pi
  have ne : ∀ {c : Addr} {o : HO}, H c = some o → (∀ xs, o ≠ .lst xs) → c ≠ p := fun {c o} e n z => by
    rw [z, hp] at e
    exact n vs (Option.some.inj e).symm
  refine ⟨?_, Grw.refl F, fun b o n h _ => by rw [upd_ne (fun z => n ⟨i, by rw [z]; exact pi⟩)]; exact h, fun b h => ?_, fun b _ h _ => h, fun b h => .inl h⟩
  · exact
      { len := by rw [List.length_set]; exact S.len
        sub := fun c o e => by rw [upd_ne (ne_of_none e nF)]; exact S.sub c o e
        tab := fun q hq => by
          obtain ⟨ps, h1, h2, h3⟩ := S.tab q hq
          refine ⟨ps, by rw [upd_ne (ne h1 fun _ z => by cases z)]; exact h1, h2, fun pos cv hc => ?_⟩
          obtain ⟨c, e1, e2⟩ := h3 pos cv hc
          exact ⟨c, e1, by rw [upd_ne (ne e2 fun _ z => by unfold LamX.CodeO at z; cases z)]; exact e2⟩
        ntb := S.ntb
        at_ := fun j t q => by
          rcases getq_set q with ⟨rfl, rfl⟩ | ⟨hj, q⟩
          · rw [hσ, hw]
            exact .own (.b ⟨_, upd_same, vs', rfl, h'⟩)
          · exact slot_ext (Grw.refl F) (fun c hc ho h _ => by rw [upd_ne (fun z => hj (S.dis j i c hc (by rw [z]; exact pi)))]; exact h) (S.at_ j t q)
        emp := fun j q => S.emp j (by
          rw [List.getElem?_eq_none_iff] at q ⊢
          rw [List.length_set] at q
          exact q)
        nof := S.nof
        dis := S.dis
        par := fun j v o h1 h2 => by
          rcases getq_set h2 with ⟨rfl, _⟩ | ⟨_, q⟩
          · exact S.par j v _ h1 e
          · exact S.par j v o h1 q }
  · by_cases hb : b = p
    · rw [hb, upd_same]; simp
    · rw [upd_ne hb]; exact h
end

/-! ### the functions -/
def isOwnL (δ : List Slot) (i : Nat) : Bool := (lookL δ i).isSome
theorem lookL_some {δ : List Slot} {i : Nat} {xs : List PyData} (h : lookL δ i = some xs) : δ[i]? = some (.own (.b (.lst xs))) := by
  unfold lookL at h
  split at h
  · rename_i ys e
    cases h
    exact e
  · cases h
/-- with the owned list of slot i, read behind m -/
def mwith {α : Type} (i : Nat) (m : M PyData) (k : List PyData → PyData → List Slot → Option (Res α)) : M α := fun δ0 => if isOwnL δ0 i then mbind m (fun d δ => match lookL δ i with
  | some xs => k xs d δ
  | none => none) δ0 else none
def mappend (i : Nat) (m : M PyData) : M PyData := mwith i m fun xs d δ => if xs.length < 1000000 then some (.ok .none (δ.set i (.own (.b (.lst (xs ++ [d])))))) else none
def mixO (i : Nat) (m : M PyData) : M PyData := mwith i m fun xs d δ => match d with
  | .int j => (atI xs j).map fun z => .ok z δ
  | _ => none
def scalarD : PyData → Bool
  | .none => true
  | .bool _ => true
  | .int _ => true
  | .str _ => true
  | _ => false
theorem scalar_dp {K : PySem.W.Frag} {F F' : Hp} {v : V} {d : PyData} (h : scalarD d = true) (hv : Dp K F v d) : Dp K F' v d := by
  cases hv with
  | non => exact .non
  | bl b => exact .bl b
  | int i => exact .int i
  | str x => exact .str x
  | _ => cases h
def fin1 (δ : List Slot) (o : Option PyData) : Option (Res PyData) := match o with
  | some z => if scalarD z then some (.ok z δ) else none
  | none => none
/-- the owned list of slot i compared with a value -/
def mcmpO (f : PyData → PyData → Option PyData) (i : Nat) (m : M PyData) : M PyData := mwith i m fun xs d δ => fin1 δ (f (.list xs) d)
/-- a value asked of the owned list of slot i -/
def minO (f : PyData → PyData → Option PyData) (m : M PyData) (i : Nat) : M PyData := mbind m fun d δ => match lookL δ i with
  | some xs => fin1 δ (f d (.list xs))
  | none => none
def mlenO (i : Nat) : M PyData := fun δ => match lookL δ i with
  | some xs => some (.ok (.int xs.length) δ)
  | none => none
def mpop (i : Nat) : M PyData := fun δ => match lookL δ i with
  | some xs => (match xs.getLast? with
    | some d => some (.ok d (δ.set i (.own (.b (.lst xs.dropLast)))))
    | none => none)
  | none => none
/-- x[e] = value -/
def ssetI (i : Nat) (mi mv : M PyData) : MS := sbind mv fun d => sbind (mwith i mi fun xs j δ => match j with
  | .int k => (match ixN xs.length k with
    | some j => some (.ok () (δ.set i (.own (.b (.lst (xs.set j d))))))
    | none => none)
  | _ => none) fun _ => snext
section
variable {X : Cx} {C : Lx} {Wx : WX} {x : Str} {p pos : Pos} {e a b : Expr} {m mv : M PyData} {σ : St} {δ : List Slot} {w : Wn} {F H : Hp}
/-- the first steps of such a function -/
theorem tAt_with {α : Type} {i : Nat} {k : List PyData → PyData → List Slot → Option (Res α)} {Q : QM α} (h : tAt C Wx (mwith i m k) σ δ w F H Q) :
    isOwnL δ i = true ∧ tAt C Wx m σ δ w F H fun d δ1 _ _ _ => ∃ xs, lookL δ1 i = some xs ∧ tAt C Wx (fun δ => k xs d δ) σ δ1 w F H Q := by
  unfold mwith at h
  have h0 : isOwnL δ i = true := by
    simp only [tAt] at h
    cases q : isOwnL δ i with
    | true => rfl
    | false => rw [q] at h; exact h.elim
  refine ⟨h0, ?_⟩
  have h1 : tAt C Wx (mbind m fun d δ => match lookL δ i with
    | some xs => k xs d δ
    | none => none) σ δ w F H Q := by
    simp only [tAt] at h ⊢
    rw [if_pos h0] at h
    exact h
  refine tAt_mono (tAt_bind0 h1) fun d δ1 w1 F1 H1 S1 g1 h2 => ?_
  simp only [tAt] at h2 ⊢
  cases q : lookL δ1 i with
  | none => rw [q] at h2; exact h2.elim
  | some xs => rw [q] at h2; exact ⟨xs, rfl, h2⟩
theorem isOwnL_at {i : Nat} (h : isOwnL δ i = true) : ∃ xs, lookL δ i = some xs := Option.isSome_iff_exists.mp h
abbrev OwnN (X : Cx) (i : Nat) (x : Str) : Prop := X.N[i]? = some x ∧ Vis X.env.scope x ∧ (x == ("__debug__" : Str)) = false ∧ (x == ("__classdict__" : Str)) = false
theorem pe_own {i : Nat} (h : OwnN X i x) : PE X (.Name x p) (tVar i) := pe_var h.1 h.2.1 h.2.2.1 h.2.2.2
/-- x.append(e) -/
theorem pd_append {p2 : Pos} (i : Nat) (hn : OwnN X i x) (he : PD X C Wx e m) (hbase : attributeBase (.Name x p) "append" X.env (eval (.Name x p) X.env) = eval (.Name x p) X.env := by rfl)
    (hfew : ((backTo pos (starEach [e] X.env)).all (fun x => !x.1) && (backToKw pos (keywordEach [] X.env)).all (fun x => x.1.isSome) && decide ([e].length + ([] : List Keyword).length + (if ([] : List Keyword).isEmpty then 0 else 1) < 30)) = true := by rfl)
    (hline : (p2.endLine == pos.line) = true := by rfl) (hs : starEach [e] X.env = (false, eval e X.env) :: starEach [] X.env := by rfl) (hplain : (backTo pos (starEach [] X.env)).any (·.1) = false := by rfl) :
    PD X C Wx (.Call (.Attribute (.Name x p) "append" p2) [e] [] pos) (mappend i m) := by
  refine pe_weak (pe_bm PySem.F.plainAttrs_list PySem.F.slot_list_append PySem.F.type_list_append mt_append (pe_own hn) (pa_cons he pa_nil hs) hbase hfew hline hs hplain) fun σ H Q q => tE_use q fun δ w F S h => ?_
  obtain ⟨h0, h1⟩ := tAt_with h
  obtain ⟨xs0, hx0⟩ := isOwnL_at h0
  obtain ⟨q0, vs0, e1, e2, e3, e4⟩ := S.ownL (lookL_some hx0)
  refine ⟨_, e1, .inl ⟨rfl, _, .inl (.inl e2)⟩, δ, w, F, S, tAt_mono h1 fun d δ1 w1 F1 H1 S1 g1 h2 v hv => ?_⟩
  obtain ⟨xs, hx, h3⟩ := h2
  obtain ⟨q1, vs1, f1, f2, f3, f4⟩ := S1.ownL (lookL_some hx)
  rw [e1] at f1
  cases f1
  simp only [tAt] at h3
  split at h3
  · exact h3.elim
  · rename_i a δ' e5
    split at e5
    · rename_i hl
      cases e5
      obtain ⟨S2, g2⟩ := S1.updL (lookL_some hx) e1 f2 f4 (dps_app f3 (.cons hv .nil))
      exact ⟨_, vs1, v, rfl, rfl, f2, by rw [dps_len f3]; exact small_lt (Nat.le_of_lt hl), h3 _ _ _ S2 (g1.trans g2) _ .non⟩
    · cases e5
  · rename_i c δ' e5
    split at e5 <;> cases e5
/-- x[e], x an owned list -/
theorem pd_ixO (i : Nat) (hn : OwnN X i x) (he : PD X C Wx e m) (hs : PlainIx e := by exact fun _ _ => rfl) : PD X C Wx (.Subscript (.Name x p) e pos) (mixO i m) := by
  refine pe_weak (pe_ix ix_list (pe_own hn) he hs) fun σ H Q q => tE_use q fun δ w F S h => ?_
  obtain ⟨h0, h1⟩ := tAt_with h
  obtain ⟨xs0, hx0⟩ := isOwnL_at h0
  obtain ⟨q0, vs0, e1, e2, e3, e4⟩ := S.ownL (lookL_some hx0)
  refine ⟨_, e1, δ, w, F, S, tAt_mono h1 fun d δ1 w1 F1 H1 S1 g1 h2 v hv => ?_⟩
  obtain ⟨xs, hx, h3⟩ := h2
  obtain ⟨q1, vs1, f1, f2, f3, f4⟩ := S1.ownL (lookL_some hx)
  rw [e1] at f1
  cases f1
  cases d with
  | int j =>
    cases hv
    simp only [tAt] at h3
    cases ez : atI xs j with
    | none => rw [ez] at h3; exact h3.elim
    | some z =>
      rw [ez] at h3
      obtain ⟨n, en, et⟩ := Option.bind_eq_some_iff.mp (show (ixN xs.length j).bind (fun k => xs[k]?) = some z from ez)
      obtain ⟨u, hu, du⟩ := dps_at f3 et
      refine ⟨_, vs1, j, u, rfl, rfl, .inl (.inl f2), ?_, h3 w1 F1 H1 S1 g1 u du⟩
      show (ixN vs1.length j).bind (fun k => vs1[k]?) = some u
      rw [dps_len f3, en]
      exact hu
  | _ => exact h3.elim
/-- what a rule tells of an owned list, the answer plain -/
theorem own_rule {r : R2} {f : PyData → PyData → Option PyData} {i : Nat} {xs : List PyData} {d : PyData} {v : V} {Q : VK} {pa : Addr} (S : C.ok F H σ δ w) (hx : lookL δ i = some xs) (hσ : σ[i]? = some (some (.ref pa))) :
    ∃ vs, H pa = some (.lst vs) ∧ Grw (upd F pa (.lst vs)) H ∧ Dp C.K (upd F pa (.lst vs)) (.ref pa) (.list xs) ∧ Grw F (upd F pa (.lst vs)) := by
  obtain ⟨q1, vs1, f1, f2, f3, f4⟩ := S.ownL (lookL_some hx)
  rw [hσ] at f1
  cases f1
  have nF : F pa = none := S.nof i pa (by rw [f4]; exact List.mem_singleton_self _)
  refine ⟨vs1, f2, fun b o q => ?_, .lst (.inl (.inl upd_same)) (dps_ext (Grw.new nF) f3), Grw.new nF⟩
  by_cases hb : b = pa
  · subst hb
    rw [upd_same] at q
    rw [f2]
    exact q
  · rw [upd_ne hb] at q
    exact S.sub b o q
theorem fin1_some {o : Option PyData} {r : Res PyData} (h : fin1 δ o = some r) : ∃ z, o = some z ∧ scalarD z = true ∧ r = .ok z δ := by
  unfold fin1 at h
  split at h
  · rename_i z
    split at h
    · rename_i hz
      cases h
      exact ⟨z, rfl, hz, rfl⟩
    · cases h
  · cases h
theorem pd_cmpO {op : CmpOp} {r : R2} {f : PyData → PyData → Option PyData} (i : Nat) (hn : OwnN X i x) (ho : OpR X (compareOp op) r) (hr : RD2 C.K r f) (he : PD X C Wx e m) (hm : behindInMarks op e = false := by first | exact nomark _ | rfl) : PD X C Wx (.Compare (.Name x p) [op] [e] pos) (mcmpO f i m) := by
  refine pe_weak (pe_cmpR ho (pe_own hn) he hm) fun σ H Q q => tE_use q fun δ w F S h => ?_
  obtain ⟨h0, h1⟩ := tAt_with h
  obtain ⟨xs0, hx0⟩ := isOwnL_at h0
  obtain ⟨q0, vs0, e1, e2, e3, e4⟩ := S.ownL (lookL_some hx0)
  refine ⟨_, e1, δ, w, F, S, tAt_mono h1 fun d δ1 w1 F1 H1 S1 g1 h2 v hv => ?_⟩
  obtain ⟨xs, hx, h3⟩ := h2
  obtain ⟨vs, f2, fs, fd, fg⟩ := own_rule (r := r) (f := f) (d := d) (v := v) (Q := Q) S1 hx e1
  simp only [tAt] at h3
  cases ef : fin1 δ1 (f (.list xs) d) with
  | none => rw [ef] at h3; exact h3.elim
  | some rr =>
    obtain ⟨z, ez, sz, rfl⟩ := fin1_some ef
    rw [ef] at h3
    refine hr (upd F1 q0 (.lst vs)) H1 (.ref q0) v (.list xs) d z Q fs fd (dp_ext fg hv) ez fun u F' H' al hu => ?_
    exact h3 w1 F1 H' (S1.alc (Alc.grw S1.sub al.hh al.tbl)) (g1.trans ((Alc.grw S1.sub al.hh al.tbl).step _ _ fun _ h => h)) u (scalar_dp sz hu)
theorem pd_inO {op : CmpOp} {r : R2} {f : PyData → PyData → Option PyData} (i : Nat) (hn : OwnN X i x) (ho : OpR X (compareOp op) r) (hr : RD2 C.K r f) (he : PD X C Wx e m) (hm : behindInMarks op (.Name x p) = false := by first | exact nomark _ | rfl) : PD X C Wx (.Compare e [op] [.Name x p] pos) (minO f m i) := by
  refine pe_weak (pe_cmpR ho he (pe_own hn) hm) fun σ H Q q => tE_use q fun δ w F S h => ?_
  refine ⟨δ, w, F, S, tAt_mono (tAt_bind0 h) fun d δ1 w1 F1 H1 S1 g1 h2 v hv => ?_⟩
  simp only [tAt] at h2
  cases hx : lookL δ1 i with
  | none => rw [hx] at h2; exact h2.elim
  | some xs =>
    rw [hx] at h2
    obtain ⟨q0, vs0, e1, e2, e3, e4⟩ := S1.ownL (lookL_some hx)
    obtain ⟨vs, f2, fs, fd, fg⟩ := own_rule (r := r) (f := f) (d := d) (v := v) (Q := Q) S1 hx e1
    dsimp only at h2
    cases ef : fin1 δ1 (f d (.list xs)) with
    | none => rw [ef] at h2; exact h2.elim
    | some rr =>
      obtain ⟨z, ez, sz, rfl⟩ := fin1_some ef
      rw [ef] at h2
      refine ⟨_, e1, hr (upd F1 q0 (.lst vs)) H1 v (.ref q0) d (.list xs) z Q fs (dp_ext fg hv) fd ez fun u F' H' al hu => ?_⟩
      exact h2 w1 F1 H' (S1.alc (Alc.grw S1.sub al.hh al.tbl)) (g1.trans ((Alc.grw S1.sub al.hh al.tbl).step _ _ fun _ h => h)) u (scalar_dp sz hu)
theorem pd_lenO {pf : Pos} (i : Nat) (hn : OwnN X i x) (hm : X.mg "len" = none) (hg : Gl X "len" := by rfl) (he : starEach [.Name x p] X.env = (false, eval (.Name x p) X.env) :: starEach [] X.env := by rfl) (hpl : (backTo pos (starEach [] X.env)).any (·.1) = false := by rfl) :
    PD X C Wx (.Call (.Name "len" pf) [.Name x p] [] pos) (mlenO i) := by
  refine pe_weak (pe_callB call_len_seq hg hm PySem.boot_len (pa_cons (pe_own hn) pa_nil he) (by decide) (by decide) he hpl) fun σ H Q q => tE_use q fun δ w F S h => ?_
  simp only [tAt, mlenO] at h
  cases hx : lookL δ i with
  | none => rw [hx] at h; exact h.elim
  | some xs =>
    rw [hx] at h
    obtain ⟨q0, vs0, e1, e2, e3, e4⟩ := S.ownL (lookL_some hx)
    refine ⟨_, e1, q0, vs0, rfl, .inl (.inl (.inl e2)), ?_⟩
    rw [dps_len e3]
    exact h w F H S S.here _ (.int _)
theorem pd_pop {p2 : Pos} (i : Nat) (hn : OwnN X i x) (hbase : attributeBase (.Name x p) "pop" X.env (eval (.Name x p) X.env) = eval (.Name x p) X.env := by rfl) (hline : (p2.endLine == pos.line) = true := by rfl) :
    PD X C Wx (.Call (.Attribute (.Name x p) "pop" p2) [] [] pos) (mpop i) := by
  refine pe_weak (pe_bm0 PySem.F.plainAttrs_list PySem.F.slot_list_pop PySem.F.type_list_pop mt_pop (pe_own hn) hbase hline) fun σ H Q q => tE_use q fun δ w F S h => ?_
  simp only [tAt, mpop] at h
  cases hx : lookL δ i with
  | none => rw [hx] at h; exact h.elim
  | some xs =>
    rw [hx] at h
    dsimp only at h
    obtain ⟨q0, vs0, e1, e2, e3, e4⟩ := S.ownL (lookL_some hx)
    cases hl : xs.getLast? with
    | none => rw [hl] at h; exact h.elim
    | some d =>
      rw [hl] at h
      have hl2 : xs[xs.length - 1]? = some d := by rw [← List.getLast?_eq_getElem?]; exact hl
      obtain ⟨u, hu, du⟩ := dps_at e3 hl2
      obtain ⟨S2, g2⟩ := S.updL (lookL_some hx) e1 e2 e4 (dps_dropLast e3)
      exact ⟨_, e1, .inl ⟨rfl, _, .inl (.inl e2)⟩, _, vs0, u, rfl, rfl, e2, by rw [dps_len e3]; exact hu, h _ _ _ S2 g2 u du⟩
end
end RH

/-! The data layer, part 9: operators and calls on data. -/
namespace RH
open PySem PySem.Spec L2

/-! ### rules by data -/
def rD (K : PySem.W.Frag) (f : PyData → PyData → Option PyData) : R2 := fun x y H Q => ∃ (F : Hp) (d e z : PyData), Grw F H ∧ Dp K F x d ∧ Dp K F y e ∧ f d e = some z ∧ ∀ v F' H', Alc F H F' H' → Dp K F' v z → Q v H'
def rD1 (K : PySem.W.Frag) (f : PyData → Option PyData) : V → Hp → VK → Prop := fun x H Q => ∃ (F : Hp) (d z : PyData), Grw F H ∧ Dp K F x d ∧ f d = some z ∧ ∀ v F' H', Alc F H F' H' → Dp K F' v z → Q v H'
def rDL (K : PySem.W.Frag) (f : List PyData → Option PyData) : List V → Hp → VK → Prop := fun xs H Q => ∃ (F : Hp) (ds : List PyData) (z : PyData), Grw F H ∧ DpAll K F xs ds ∧ f ds = some z ∧ ∀ v F' H', Alc F H F' H' → Dp K F' v z → Q v H'
def rDM (K : PySem.W.Frag) (f : PyData → List PyData → Option PyData) : V → List V → Hp → VK → Prop := fun x xs H Q => ∃ (F : Hp) (d : PyData) (ds : List PyData) (z : PyData), Grw F H ∧ Dp K F x d ∧ DpAll K F xs ds ∧ f d ds = some z ∧ ∀ v F' H', Alc F H F' H' → Dp K F' v z → Q v H'
def rDS (K : PySem.W.Frag) (f : PyData → Option Int → Option Int → Option PyData) : V → Option Int → Option Int → Hp → VK → Prop := fun x lo hi H Q => ∃ (F : Hp) (d z : PyData), Grw F H ∧ Dp K F x d ∧ f d lo hi = some z ∧ ∀ v F' H', Alc F H F' H' → Dp K F' v z → Q v H'
theorem rd2 (K : PySem.W.Frag) (f) : RD2 K (rD K f) f := fun F H x y d e z Q g hx hy h q => ⟨F, d, e, z, g, hx, hy, h, q⟩
theorem rd1 (K : PySem.W.Frag) (f) : RD1 K (rD1 K f) f := fun F H x d z Q g hx h q => ⟨F, d, z, g, hx, h, q⟩
theorem rdl (K : PySem.W.Frag) (f) : RDL K (rDL K f) f := fun F H x d z Q g hx h q => ⟨F, d, z, g, hx, h, q⟩
theorem rdm (K : PySem.W.Frag) (f) : RDM K (rDM K f) f := fun F H x xs d ds z Q g hx hxs h q => ⟨F, d, ds, z, g, hx, hxs, h, q⟩
abbrev OpD (X : Cx) (op : Value → Value → Sem Value) (f : PyData → PyData → Option PyData) : Prop := OpR X op (rD X.K f)
abbrev UnD (X : Cx) (op : Value → Sem Value) (f : PyData → Option PyData) : Prop := UnR X op (rD1 X.K f)
abbrev CallD (X : Cx) (u : Value) (f : List PyData → Option PyData) : Prop := CallR X u (rDL X.K f)
abbrev MtD (X : Cx) (id : String) (f : PyData → List PyData → Option PyData) : Prop := MtR X id (rDM X.K f)
abbrev SlD (X : Cx) (f : PyData → Option Int → Option Int → Option PyData) : Prop := SlR X (rDS X.K f)
abbrev IxD (X : Cx) (f : PyData → PyData → Option PyData) : Prop := IxR X (rD X.K f)
section
variable {X : Cx}
theorem opD_of {op : Value → Value → Sem Value} {r : R2} {f : PyData → PyData → Option PyData} (h : OpR X op r) (hr : RD2 X.K r f) : OpD X op f := by
  intro pins s σ H x y v u Q I rx ry q
  obtain ⟨F, d, e, z, g, hd, he, ef, k⟩ := q
  exact h pins s σ H x y v u Q I rx ry (hr F H x y d e z Q g hd he ef k)
theorem unD_of {op : Value → Sem Value} {r : V → Hp → VK → Prop} {f : PyData → Option PyData} (h : UnR X op r) (hr : RD1 X.K r f) : UnD X op f := by
  intro pins s σ H x v Q I rx q
  obtain ⟨F, d, z, g, hd, ef, k⟩ := q
  exact h pins s σ H x v Q I rx (hr F H x d z Q g hd ef k)
theorem callD_of {u : Value} {r : List V → Hp → VK → Prop} {f : List PyData → Option PyData} (h : CallR X u r) (hr : RDL X.K r f) : CallD X u f := by
  intro pins s σ H xs us Q I rx q
  obtain ⟨F, ds, z, g, hd, ef, k⟩ := q
  exact h pins s σ H xs us Q I rx (hr F H xs ds z Q g hd ef k)
theorem slD_of {r : V → Option Int → Option Int → Hp → VK → Prop} {f : PyData → Option Int → Option Int → Option PyData} (h : SlR X r) (hr : RDS X.K r f) : SlD X f := by
  intro pins s σ H x v vl vu lo hi sl Q I rx hs pl pu q
  obtain ⟨F, d, z, g, hd, ef, k⟩ := q
  exact h pins s σ H x v vl vu lo hi sl Q I rx hs pl pu (hr F H x lo hi d z Q g hd ef k)
theorem ixD_of {r : R2} {f : PyData → PyData → Option PyData} (h : IxR X r) (hr : RD2 X.K r f) : IxD X f := by
  intro value slice pins s σ H x y v u Q I rx ry q hs
  obtain ⟨F, d, e, z, g, hd, he, ef, k⟩ := q
  exact h value slice pins s σ H x y v u Q I rx ry (hr F H x y d e z Q g hd he ef k) hs
/-- two rules: the first where it tells, else the second -/
def orF {α : Type} (f g : α → Option PyData) : α → Option PyData := fun a => match f a with
  | some z => some z
  | none => g a
def orF2 {α β : Type} (f g : α → β → Option PyData) : α → β → Option PyData := fun a b => match f a b with
  | some z => some z
  | none => g a b
theorem orF2_some {α β : Type} {f g : α → β → Option PyData} {a : α} {b : β} {z : PyData} (h : orF2 f g a b = some z) : f a b = some z ∨ g a b = some z := by
  unfold orF2 at h
  split at h
  · rename_i z' e
    rw [← h]
    exact .inl e
  · exact .inr h
theorem orF_some {α : Type} {f g : α → Option PyData} {a : α} {z : PyData} (h : orF f g a = some z) : f a = some z ∨ g a = some z := by
  unfold orF at h
  split at h
  · rename_i z' e
    rw [← h]
    exact .inl e
  · exact .inr h
theorem OpD.or {op : Value → Value → Sem Value} {f g : PyData → PyData → Option PyData} (h : OpD X op f) (h' : OpD X op g) : OpD X op (orF2 f g) := by
  intro pins s σ H x y v u Q I rx ry q
  obtain ⟨F, d, e, z, gr, hd, he, ef, k⟩ := q
  rcases orF2_some ef with ef | ef
  · exact h pins s σ H x y v u Q I rx ry ⟨F, d, e, z, gr, hd, he, ef, k⟩
  · exact h' pins s σ H x y v u Q I rx ry ⟨F, d, e, z, gr, hd, he, ef, k⟩
theorem CallD.or {w : Value} {f g : List PyData → Option PyData} (h : CallD X w f) (h' : CallD X w g) : CallD X w (orF f g) := by
  intro pins s σ H xs us Q I rx q
  obtain ⟨F, ds, z, gr, hd, ef, k⟩ := q
  rcases orF_some ef with ef | ef
  · exact h pins s σ H xs us Q I rx ⟨F, ds, z, gr, hd, ef, k⟩
  · exact h' pins s σ H xs us Q I rx ⟨F, ds, z, gr, hd, ef, k⟩
theorem SlD.or {f g : PyData → Option Int → Option Int → Option PyData} (h : SlD X f) (h' : SlD X g) : SlD X (fun d lo hi => orF (fun d => f d lo hi) (fun d => g d lo hi) d) := by
  intro pins s σ H x v vl vu lo hi sl Q I rx hs pl pu q
  obtain ⟨F, d, z, gr, hd, ef, k⟩ := q
  rcases orF_some ef with ef | ef
  · exact h pins s σ H x v vl vu lo hi sl Q I rx hs pl pu ⟨F, d, z, gr, hd, ef, k⟩
  · exact h' pins s σ H x v vl vu lo hi sl Q I rx hs pl pu ⟨F, d, z, gr, hd, ef, k⟩
end

/-! ### ints -/
def iiD (c : Int → Int → Bool) (f : Int → Int → PyData) : PyData → PyData → Option PyData
  | .int i, .int j => if c i j then some (f i j) else none
  | _, _ => none
theorem iiD_some {c : Int → Int → Bool} {f : Int → Int → PyData} {d e z : PyData} (h : iiD c f d e = some z) : ∃ i j, d = .int i ∧ e = .int j ∧ c i j = true ∧ z = f i j := by
  cases d with
  | int i =>
    cases e with
    | int j =>
      simp only [iiD] at h
      split at h
      · rename_i hc
        exact ⟨i, j, rfl, rfl, hc, (Option.some.inj h).symm⟩
      · cases h
    | _ => cases h
  | _ => cases h
theorem rd_ii {K : PySem.W.Frag} {C : Int → Int → Prop} {g : Int → Int → V} {c : Int → Int → Bool} {f : Int → Int → PyData} (hc : ∀ i j, c i j = true → C i j) (hf : ∀ i j F, Dp K F (g i j) (f i j)) : RD2 K (rI C g) (iiD c f) := by
  intro F H x y d e z Q gr hd he h q
  obtain ⟨i, j, rfl, rfl, hcc, rfl⟩ := iiD_some h
  cases hd
  cases he
  exact ⟨i, j, rfl, rfl, hc i j hcc, q _ F H (Alc.refl gr) (hf i j F)⟩
theorem rd_ii0 {K : PySem.W.Frag} {g : Int → Int → V} {f : Int → Int → PyData} (hf : ∀ i j F, Dp K F (g i j) (f i j)) : RD2 K (rI0 g) (iiD (fun _ _ => true) f) := by
  intro F H x y d e z Q gr hd he h q
  obtain ⟨i, j, rfl, rfl, hcc, rfl⟩ := iiD_some h
  cases hd
  cases he
  exact ⟨i, j, rfl, rfl, q _ F H (Alc.refl gr) (hf i j F)⟩
def iaddD : PyData → PyData → Option PyData := iiD (fun _ _ => true) fun i j => .int (i + j)
def isubD : PyData → PyData → Option PyData := iiD (fun _ _ => true) fun i j => .int (i - j)
def imulOk (i j : Int) : Bool := decide ((Builtin.Int.intBits i : Int) + (Builtin.Int.intBits j : Int) ≤ 134217728)
def imulD : PyData → PyData → Option PyData := iiD imulOk fun i j => .int (i * j)
def idivOk (_ j : Int) : Bool := decide (0 < j) && decide (j.natAbs.log2 < 9000)
def idivD : PyData → PyData → Option PyData := iiD idivOk fun i j => .int (i / j)
def imodD : PyData → PyData → Option PyData := iiD (fun _ j => decide (0 < j)) fun i j => .int (i % j)
def ipowOk (i j : Int) : Bool := decide (0 ≤ j) && decide (j ≤ 1000000) && decide (i.natAbs < 2 ^ 64)
def ipowD : PyData → PyData → Option PyData := iiD ipowOk fun i j => .int (i ^ j.toNat)
def negD : PyData → Option PyData
  | .int i => some (.int (-i))
  | _ => none
section
variable {X : Cx}
theorem opD_iadd : OpD X (binaryOp .Add) iaddD := opD_of op_add (rd_ii0 fun _ _ _ => .int _)
theorem opD_sub : OpD X (binaryOp .Sub) isubD := opD_of op_sub (rd_ii0 fun _ _ _ => .int _)
theorem opD_imul : OpD X (binaryOp .Mult) imulD := opD_of op_mulX (rd_ii (fun _ _ h => by
  unfold imulOk at h
  unfold CMulX
  exact of_decide_eq_true h) fun _ _ _ => .int _)
theorem opD_div : OpD X (binaryOp .FloorDiv) idivD := opD_of op_fdivW (rd_ii (fun _ _ h => by
  unfold idivOk at h
  rw [Bool.and_eq_true] at h
  exact ⟨of_decide_eq_true h.1, of_decide_eq_true h.2⟩) fun _ _ _ => .int _)
theorem opD_mod : OpD X (binaryOp .Mod) imodD := opD_of op_mod (rd_ii (fun _ _ h => of_decide_eq_true h) fun _ _ _ => .int _)
theorem opD_pow : OpD X (binaryOp .Pow) ipowD := opD_of op_pow (rd_ii (fun _ _ h => by
  unfold ipowOk at h
  rw [Bool.and_eq_true, Bool.and_eq_true] at h
  exact ⟨of_decide_eq_true h.1.1, of_decide_eq_true h.1.2, of_decide_eq_true h.2⟩) fun _ _ _ => .int _)
theorem unD_neg : UnD X (unaryOp .USub) negD := unD_of un_neg fun F H x d z Q g hd h q => by
  cases d with
  | int i =>
    cases hd
    cases h
    exact ⟨i, rfl, q _ F H (Alc.refl g) (.int _)⟩
  | _ => cases h

/-! ### +, * of texts, tuples, lists -/
def sqaddD : PyData → PyData → Option PyData
  | .str a, .str b => if a.length + b.length ≤ 1000000 then some (.str (a ++ b)) else none
  | .tuple xs, .tuple ys => if xs.length + ys.length ≤ 1000000 then some (.tuple (xs ++ ys)) else none
  | .list xs, .list ys => if xs.length + ys.length ≤ 1000000 then some (.list (xs ++ ys)) else none
  | _, _ => none

/-- l + m, any two lists -/
def rCatL (K : PySem.W.Frag) : R2 := fun x y H Q => ∃ l b xs zs, x = .ref l ∧ y = .ref b ∧ SqL K H l xs ∧ SqL K H b zs ∧ xs.length + zs.length ≤ sizeLine ∧ ∀ p, H p = none → Q (.ref p) (upd H p (.lst (xs ++ zs)))
theorem op_catL : OpR X (binaryOp .Add) (rCatL X.K) := by
  intro pins s σ H x y v u Q I rx ry h
  obtain ⟨l, b, xs, zs, rfl, rfl, hH, hB, hz, q⟩ := h
  cases rx
  cases ry
  obtain ⟨its, r, ⟨⟨cls, dd, data, sl⟩, n, e, hc, hd, hs⟩, z⟩ := I.list hH
  obtain ⟨its2, r2, ⟨⟨cls2, dd2, data2, sl2⟩, n2, e2, hc2, hd2, hs2⟩, z2⟩ := I.list hB
  simp only at hc hd hs hc2 hd2 hs2
  subst hc hd hs hc2 hd2 hs2
  have hl := r.length
  have hl2 := r2.length
  refine concat_meets ⟨_, e, rfl⟩ ⟨_, e2, rfl⟩ noFill_list_add seq_list_add PySem.F.slot_list_add PySem.F.entry_list_add (PySem.F.args_list_add_2 _ _)
    (PyProof.Rows.list_addW l b its.toArray its2.toArray n n2 _ _ sl sl2 (by rw [List.size_toArray, List.size_toArray]; omega)) ⟨e, e2, ?_⟩
  have ea : its.toArray ++ its2.toArray = (its ++ its2).toArray := by simp
  rw [ea]
  exact ⟨.ref _, _, I.lnew (t' := s.toks) (r.append r2) (by rw [List.length_append]; omega), rfl, q _ I.fresh⟩
/-- t + u: a new tuple is an object without a dict -/
def rCatP (K : PySem.W.Frag) : R2 := fun x y H Q => ∃ a b xs ys, x = .ref a ∧ y = .ref b ∧ SqT K H a xs ∧ SqT K H b ys ∧ xs.length + ys.length ≤ sizeLine ∧
  (xs = [] → Q (.ref b) H) ∧ (xs ≠ [] → ys = [] → Q (.ref a) H) ∧ (xs ≠ [] → ys ≠ [] → ∀ p ob, ob.dict = none → H p = none → Q (.ref p) (upd H p (.frz ob (.tup (xs ++ ys)))))
theorem op_catP : OpR X (binaryOp .Add) (rCatP X.K) := by
  intro pins s σ H x y v u Q I rx ry h
  obtain ⟨a, b, xs, ys, rfl, rfl, ha, hb, hz, q0, q1, q2⟩ := h
  cases rx
  cases ry
  obtain ⟨its, r1, p1, _⟩ := I.tuple ha
  obtain ⟨its2, r2, p2, _⟩ := I.tuple hb
  by_cases hx : xs = []
  · subst hx
    cases r1
    exact cat_tup0 p1 p2 ⟨.ref b, H, I, rfl, q0 rfl⟩
  · refine HT.cat_tup p1 p2 (fun z => hx (r1.nil_iff.mp z)) (fun z => ⟨.ref a, H, I, rfl, q1 hx (r2.nil_iff.mp z)⟩) (fun z => ?_) (by rw [← r1.length, ← r2.length]; exact hz)
    exact ⟨.ref s.heap.objs.size, _, I.laid (t' := s.toks) (fun b ob q => Heap.get?_push_of_some _ q) (Nat.le_refl _) (frz_new (Heap.get?_push_size _ rfl) rfl 0 rfl (by rw [List.length_append]; exact hz) (r1.append r2)), rfl, q2 hx (fun w => z (r2.nil_iff.mpr w)) _ _ rfl (I.hok.fresh (Nat.le_refl _))⟩
theorem opD_sqadd : OpD X (binaryOp .Add) sqaddD := by
  intro pins s σ H x y v u Q I rx ry h
  obtain ⟨F, d, e, z, g, hd, he, ef, q⟩ := h
  cases hd with
  | str a =>
    cases he with
    | str b =>
      simp only [sqaddD] at ef
      split at ef
      · rename_i hl
        cases ef
        exact op_add_str pins s σ H _ _ v u Q I rx ry ⟨a, b, rfl, rfl, small_ok hl, q _ F H (Alc.refl g) (.str _)⟩
      · cases ef
    | _ => cases ef
  | tup hs hd =>
    cases he with
    | tup hs2 hd2 =>
      simp only [sqaddD] at ef
      split at ef
      · rename_i hl
        cases ef
        have l1 := dps_len hd
        have l2 := dps_len hd2
        refine op_catP pins s σ H _ _ v u Q I rx ry ⟨_, _, _, _, rfl, rfl, sqt_ext g hs, sqt_ext g hs2, by rw [l1, l2]; exact small_ok hl, fun h1 => ?_, fun h1 h2 => ?_, fun h1 h2 p ob ho hp => ?_⟩
        · subst h1
          cases hd
          exact q _ F H (Alc.refl g) (.tup hs2 hd2)
        · subst h2
          cases hd2
          rw [List.append_nil] at q
          exact q _ F H (Alc.refl g) (.tup hs hd)
        · obtain ⟨a, d⟩ := new_tup ho g hp (dps_app hd hd2)
          exact q _ _ _ a d
      · cases ef
    | _ => cases ef
  | lst hs hd =>
    cases he with
    | lst hs2 hd2 =>
      simp only [sqaddD] at ef
      split at ef
      · rename_i hl
        cases ef
        refine op_catL pins s σ H _ _ v u Q I rx ry ⟨_, _, _, _, rfl, rfl, sql_ext g hs, sql_ext g hs2, by rw [dps_len hd, dps_len hd2]; exact small_ok hl, fun p hp => ?_⟩
        obtain ⟨a, d⟩ := new_lst g hp (dps_app hd hd2)
        exact q _ _ _ a d
      · cases ef
    | _ => cases ef
  | _ => cases ef
def addD := orF2 iaddD sqaddD
theorem opD_add : OpD X (binaryOp .Add) addD := opD_iadd.or opD_sqadd

def repS (x : Str) (n : Nat) : Str := ⟨(List.replicate n x.cps.toList).flatten.toArray⟩
def sqmulD : PyData → PyData → Option PyData
  | .str a, .int k => if 2 ≤ k ∧ k ≤ 1000 ∧ 1 ≤ a.length ∧ a.length ≤ 1000 then some (.str (repS a k.toNat)) else none
  | .tuple xs, .int k => if xs ≠ [] ∧ 2 ≤ k ∧ k ≤ 1000 ∧ xs.length ≤ 1000 then some (.tuple (List.replicate k.toNat xs).flatten) else none
  | .list xs, .int k => if 0 ≤ k ∧ k ≤ 1000 ∧ xs.length ≤ 1000 then some (.list (List.replicate k.toNat xs).flatten) else none
  | _, _ => none
theorem dps_rep {K : PySem.W.Frag} {F : Hp} {vs : List V} {ds : List PyData} (h : DpAll K F vs ds) : ∀ n : Nat, DpAll K F (List.replicate n vs).flatten (List.replicate n ds).flatten
  | 0 => .nil
  | n + 1 => by
    rw [List.replicate_succ, List.replicate_succ, List.flatten_cons, List.flatten_cons]
    exact dps_app h (dps_rep h n)
/-- l * k -/
def rRepL (K : PySem.W.Frag) : R2 := fun x y H Q => ∃ l k xs, x = .ref l ∧ y = .int k ∧ SqL K H l xs ∧ 0 ≤ k ∧ k ≤ 1000 ∧ xs.length ≤ 1000 ∧ ∀ p, H p = none → Q (.ref p) (upd H p (.lst (List.replicate k.toNat xs).flatten))
theorem op_repL : OpR X (binaryOp .Mult) (rRepL X.K) := by
  intro pins s σ H x y v u Q I rx ry h
  obtain ⟨l, k, xs, rfl, rfl, hH, h1, h2, hz, q⟩ := h
  cases rx
  obtain ⟨t, rfl⟩ := ry
  obtain ⟨its, r, ⟨⟨cls, dd, data, sl⟩, n, ho, hc, hd, hs⟩, z⟩ := I.list hH
  simp only at hc hd hs
  subst hc hd hs
  have hl := r.length
  have hn : its.toArray.size * k.toNat ≤ 1000000 := by
    rw [List.size_toArray, ← hl]
    calc xs.length * k.toNat ≤ 1000 * 1000 := Nat.mul_le_mul hz (by omega)
      _ ≤ 1000000 := by decide
  have hlen : (List.replicate k.toNat xs).flatten.length ≤ sizeLine := by
    rw [PyProof.Rows.lm_len_rep_flat, sizeLine_eq]
    have a1 : k.toNat * xs.length ≤ 1000 * 1000 := Nat.mul_le_mul (by omega) hz
    omega
  refine wpAny_binaryOp_repeat_ref (T := "list") (U := "int") (by decide) ⟨_, ho, rfl⟩ (fun s' => typeIs_int s' k t) noFill_list_mul F.fills_int_mul F.slot_int_rmul repeat_list F.slot_int_index.lookup
    (call_meets F.slot_int_rmul (typeIs_int s k t) F.entry_int_rmul (F.args_int_rmul_2 _ _) (PySem.lm_int_rmul_list_any k t l its.toArray n _ sl)
      ⟨ho, rfl, ⟨_, ho, rfl⟩, call_meets F.slot_list_mul ⟨_, ho, rfl⟩ F.entry_list_mul (F.args_list_mul_2 _ _)
        (PySem.lm_list_mul_any l its.toArray n _ sl k t (by simp [Builtin.List.listFitsIndex]; omega) (by omega) (by simp only [Builtin.List.listTooLong, sizeLine]; simp; simp at hn; omega))
        ⟨ho, ?_⟩⟩)
  rw [PyProof.Rows.listMul_foldl_if]
  exact ⟨.ref _, _, I.lnew (t' := s.toks) (r.rep k.toNat) hlen, rfl, q _ I.fresh⟩
def rRepP (K : PySem.W.Frag) : R2 := fun x y H Q => ∃ l k xs, x = .ref l ∧ y = .int k ∧ SqT K H l xs ∧ xs ≠ [] ∧ 2 ≤ k ∧ k ≤ 1000 ∧ xs.length ≤ 1000 ∧ ∀ p ob, ob.dict = none → H p = none → Q (.ref p) (upd H p (.frz ob (.tup (List.replicate k.toNat xs).flatten)))
theorem op_repP : OpR X (binaryOp .Mult) (rRepP X.K) := by
  intro pins s σ H x y v u Q I rx ry h
  obtain ⟨l, k, xs, rfl, rfl, hT, hne, h1, h2, hz, q⟩ := h
  cases rx
  obtain ⟨t, rfl⟩ := ry
  obtain ⟨its, r, ⟨⟨cls, dd, data, sl⟩, ho, hc, n, hd⟩, hs⟩ := I.tuple hT
  simp only at hc hd
  subst hc hd
  have hle : its.length = xs.length := r.length.symm
  have hn : its ≠ [] := fun e => hne (by
    rw [e] at hle
    exact List.eq_nil_of_length_eq_zero hle.symm)
  have hi : its.toArray.isEmpty = false := by
    cases its with
    | nil => exact absurd rfl hn
    | cons a b => rfl
  have hsz0 : its.toArray.size = xs.length := by rw [List.size_toArray, hle]
  have hm : ((its.toArray.size : Nat) : Int) * k ≤ 1000000 := by
    rw [hsz0]
    have a1 : ((xs.length : Nat) : Int) * k ≤ 1000 * k := Int.mul_le_mul_of_nonneg_right (by omega) (by omega)
    omega
  have flen : (List.replicate k.toNat its).flatten.length ≤ sizeLine := by
    rw [PyProof.Rows.lm_len_rep_flat, hle, sizeLine_eq]
    have a1 : k.toNat * xs.length ≤ 1000 * 1000 := Nat.mul_le_mul (by omega) hz
    omega
  have c0 : (decide (k < -(2 ^ 63)) || decide (k ≥ 2 ^ 63)) = false := by
    rw [decide_eq_false (by omega), decide_eq_false (by omega)] <;> rfl
  have c1 : (its.toArray.isEmpty || k == 1) = false := by
    rw [hi, Bool.false_or]
    exact beq_eq_false_iff_ne.mpr (by omega)
  have c2 : (decide (k ≤ 0) || its.toArray.isEmpty) = false := by
    rw [hi, Bool.or_false]
    exact decide_eq_false (by omega)
  have c4 : Builtin.Tuple.tupleTooMany (((its.toArray.size : Nat) : Int) * k) = false := by
    unfold Builtin.Tuple.tupleTooMany
    rw [sizeLine_eq]
    exact decide_eq_false (by omega)
  refine wpAny_binaryOp_repeat_ref (T := "tuple") (U := "int") (by decide) ⟨_, ho, rfl⟩ (fun s' => typeIs_int s' k t) noFill_tuple_mul F.fills_int_mul F.slot_int_rmul repeat_tuple F.slot_int_index.lookup
    (call_meets F.slot_int_rmul (typeIs_int s k t) F.entry_int_rmul (F.args_int_rmul_2 _ _) (int_rmul_tuple k t l its.toArray n dd sl)
      ⟨ho, rfl, ⟨_, ho, rfl⟩, call_meets F.slot_tuple_mul ⟨_, ho, rfl⟩ F.entry_tuple_mul (F.args_tuple_mul_2 _ _) (tuple_mulW l its.toArray n dd sl k t c0 c1 c2 (by omega) c4 (by rw [size_rep, List.size_toArray]; exact flen)) ⟨ho, ?_⟩⟩)
  rw [size_rep]
  exact ⟨.ref s.heap.objs.size, _, I.laid (t' := s.toks) (fun b ob q => Heap.get?_push_of_some _ q) (Nat.le_refl _) (frz_new (Heap.get?_push_size _ rfl) rfl 0 rfl (by rw [PyProof.Rows.lm_len_rep_flat, sizeLine_eq]; have a1 : k.toNat * xs.length ≤ 1000 * 1000 := Nat.mul_le_mul (by omega) hz; omega) (r.rep k.toNat)), rfl, q _ _ rfl (I.hok.fresh (Nat.le_refl _))⟩
theorem opD_sqmul : OpD X (binaryOp .Mult) sqmulD := by
  intro pins s σ H x y v u Q I rx ry h
  obtain ⟨F, d, e, z, g, hd, he, ef, q⟩ := h
  cases hd with
  | str a =>
    cases he with
    | int k =>
      simp only [sqmulD] at ef
      split at ef
      · rename_i hk
        cases ef
        obtain ⟨h1, h2, h3, h4⟩ := hk
        obtain ⟨t, rfl⟩ := rx
        obtain ⟨t', rfl⟩ := ry
        have e1 : (k == 1 || a.length == 0) = false := by
          rw [Bool.or_eq_false_iff]
          exact ⟨beq_eq_false_iff_ne.mpr (by omega), beq_eq_false_iff_ne.mpr (by omega)⟩
        have hm : a.length * k.toNat ≤ 1000000 := by
          calc a.length * k.toNat ≤ 1000 * 1000 := Nat.mul_le_mul h4 (by omega)
            _ ≤ 1000000 := by decide
        refine PySem.P.mul_str ?_ (fun _ _ => ?_) (fun _ _ => ?_) ?_
        · rw [decide_eq_false (by omega), decide_eq_false (by omega)] <;> rfl
        · have : (1000 : Int) ≤ (2 ^ 63 - 1) / k := by
            rw [Int.le_ediv_iff_mul_le (by omega)]
            omega
          omega
        · unfold Builtin.Str.tooLong
          exact decide_eq_false (by rw [sizeLine_eq]; omega)
        · rw [if_neg (by omega), e1, if_neg Bool.false_ne_true]
          have hf : ∀ (m : Nat) (acc : Array Nat), (List.replicate m a.cps).foldl (· ++ ·) acc = acc ++ ((List.replicate m a.cps.toList).flatten.toArray : Array Nat) := by
            intro m
            induction m with
            | zero => intro acc; simp
            | succ m ih =>
              intro acc
              rw [List.replicate_succ, List.foldl_cons, ih, List.replicate_succ, List.flatten_cons]
              apply Array.toList_inj.mp
              simp
          rw [hf]
          have hr : (⟨#[] ++ (List.replicate k.toNat a.cps.toList).flatten.toArray⟩ : Str) = repS a k.toNat := by simp [repS]
          rw [hr]
          refine ⟨?_, .str _, H, I.tok _, ⟨_, rfl⟩, q _ F H (Alc.refl g) (.str _)⟩
          unfold repS Str.length
          rw [List.size_toArray, PyProof.Rows.lm_len_rep_flat, sizeLine_eq, Array.length_toList, Nat.mul_comm]
          unfold Str.length at hm
          omega
      · cases ef
    | _ => cases ef
  | tup hs hd =>
    cases he with
    | int k =>
      simp only [sqmulD] at ef
      split at ef
      · rename_i hk
        cases ef
        have l1 := dps_len hd
        refine op_repP pins s σ H _ _ v u Q I rx ry ⟨_, _, _, rfl, rfl, sqt_ext g hs, fun z => hk.1 ?_, hk.2.1, hk.2.2.1, by rw [l1]; exact hk.2.2.2, fun p ob ho hp => ?_⟩
        · rw [z] at l1
          exact List.eq_nil_of_length_eq_zero l1.symm
        · obtain ⟨a, d⟩ := new_tup ho g hp (dps_rep hd k.toNat)
          exact q _ _ _ a d
      · cases ef
    | _ => cases ef
  | lst hs hd =>
    cases he with
    | int k =>
      simp only [sqmulD] at ef
      split at ef
      · rename_i hk
        cases ef
        refine op_repL pins s σ H _ _ v u Q I rx ry ⟨_, _, _, rfl, rfl, sql_ext g hs, hk.1, hk.2.1, by rw [dps_len hd]; exact hk.2.2, fun p hp => ?_⟩
        obtain ⟨a, d⟩ := new_lst g hp (dps_rep hd k.toNat)
        exact q _ _ _ a d
      · cases ef
    | _ => cases ef
  | _ => cases ef
def mulD := orF2 imulD sqmulD
theorem opD_mul : OpD X (binaryOp .Mult) mulD := opD_imul.or opD_sqmul
end

/-! ### comparisons -/
def shp (d : PyData) : Bool := SeqAt.shaped d
def eqD (d e : PyData) : Option PyData := if shp d && shp e then some (.bool (PyData.eqv d e)) else none
def neD (d e : PyData) : Option PyData := if shp d && shp e then some (.bool (!PyData.eqv d e)) else none
def ordOk (d e : PyData) : Bool := PySem.W.alike d e && shp d && (match d with | .none => false | _ => true)
def ordD (f : Int → Int → Bool) (g : PyData → PyData → Bool) : PyData → PyData → Option PyData
  | .int i, .int j => some (.bool (f i j))
  | d, e => if ordOk d e then some (.bool (g d e)) else none
def ltD := ordD (fun i j => decide (i < j)) fun d e => PySem.W.dataLt d e
def leD := ordD (fun i j => decide (i ≤ j)) fun d e => !PySem.W.dataLt e d
def gtD := ordD (fun i j => decide (j < i)) fun d e => PySem.W.dataLt e d
def geD := ordD (fun i j => decide (j ≤ i)) fun d e => !PySem.W.dataLt d e
theorem ordD_some {f : Int → Int → Bool} {g : PyData → PyData → Bool} {d e z : PyData} (h : ordD f g d e = some z) : (∃ i j, d = .int i ∧ e = .int j ∧ z = .bool (f i j)) ∨ (PySem.W.alike d e = true ∧ shp d = true ∧ d ≠ .none ∧ z = .bool (g d e)) := by
  unfold ordD at h
  split at h
  · cases h
    exact .inl ⟨_, _, rfl, rfl, rfl⟩
  · split at h
    · rename_i ho
      cases h
      unfold ordOk at ho
      rw [Bool.and_eq_true, Bool.and_eq_true] at ho
      refine .inr ⟨ho.1.1, ho.1.2, ?_, rfl⟩
      rintro rfl
      exact absurd ho.2 (by simp)
    · cases h
section
variable {X : Cx}
theorem opD_eq (hu : X.A.units + 64 < cLine) : OpD X (compareOp .Eq) eqD := opD_of (op_eqD hu) fun F H x y d e z Q g hd he h q => by
  unfold eqD at h
  split at h
  · rename_i hs
    cases h
    rw [Bool.and_eq_true] at hs
    exact ⟨d, e, dp_ext g hd, dp_ext g he, hs.1, hs.2, q _ F H (Alc.refl g) (.bl _)⟩
  · cases h
theorem opD_ne (hu : X.A.units + 64 < cLine) : OpD X (compareOp .NotEq) neD := opD_of (op_neD hu) fun F H x y d e z Q g hd he h q => by
  unfold neD at h
  split at h
  · rename_i hs
    cases h
    rw [Bool.and_eq_true] at hs
    exact ⟨d, e, dp_ext g hd, dp_ext g he, hs.1, hs.2, q _ F H (Alc.refl g) (.bl _)⟩
  · cases h
theorem opD_lt (hu : X.A.units + 64 < cLine) : OpD X (compareOp .Lt) ltD := by
  intro pins s σ H x y v u Q I rx ry h
  obtain ⟨F, d, e, z, g, hd, he, ef, q⟩ := h
  rcases ordD_some ef with ⟨i, j, rfl, rfl, rfl⟩ | ⟨h1, h2, h3, rfl⟩
  · cases hd; cases he
    exact op_lt pins s σ H _ _ v u Q I rx ry ⟨i, j, rfl, rfl, q _ F H (Alc.refl g) (.bl _)⟩
  · obtain ⟨as, r1⟩ := Dp.reads I d x v (dp_ext g hd) rx
    obtain ⟨bs, r2⟩ := Dp.reads I e y u (dp_ext g he) ry
    exact PySem.W.lt_data r1 r2 h1 h3 (SeqAt.room_of_shaped h2 hu) ⟨.bl _, H, I, rfl, q _ F H (Alc.refl g) (.bl _)⟩
theorem opD_le (hu : X.A.units + 64 < cLine) : OpD X (compareOp .LtE) leD := by
  intro pins s σ H x y v u Q I rx ry h
  obtain ⟨F, d, e, z, g, hd, he, ef, q⟩ := h
  rcases ordD_some ef with ⟨i, j, rfl, rfl, rfl⟩ | ⟨h1, h2, h3, rfl⟩
  · cases hd; cases he
    exact op_le pins s σ H _ _ v u Q I rx ry ⟨i, j, rfl, rfl, q _ F H (Alc.refl g) (.bl _)⟩
  · obtain ⟨as, r1⟩ := Dp.reads I d x v (dp_ext g hd) rx
    obtain ⟨bs, r2⟩ := Dp.reads I e y u (dp_ext g he) ry
    exact PySem.W.le_data r1 r2 h1 h3 (SeqAt.room_of_shaped h2 hu) ⟨.bl _, H, I, rfl, q _ F H (Alc.refl g) (.bl _)⟩
theorem opD_gt (hu : X.A.units + 64 < cLine) : OpD X (compareOp .Gt) gtD := by
  intro pins s σ H x y v u Q I rx ry h
  obtain ⟨F, d, e, z, g, hd, he, ef, q⟩ := h
  rcases ordD_some ef with ⟨i, j, rfl, rfl, rfl⟩ | ⟨h1, h2, h3, rfl⟩
  · cases hd; cases he
    exact op_gt pins s σ H _ _ v u Q I rx ry ⟨i, j, rfl, rfl, q _ F H (Alc.refl g) (.bl _)⟩
  · obtain ⟨as, r1⟩ := Dp.reads I d x v (dp_ext g hd) rx
    obtain ⟨bs, r2⟩ := Dp.reads I e y u (dp_ext g he) ry
    exact PySem.W.gt_data r1 r2 h1 h3 (SeqAt.room_of_shaped h2 hu) ⟨.bl _, H, I, rfl, q _ F H (Alc.refl g) (.bl _)⟩
theorem opD_ge (hu : X.A.units + 64 < cLine) : OpD X (compareOp .GtE) geD := by
  intro pins s σ H x y v u Q I rx ry h
  obtain ⟨F, d, e, z, g, hd, he, ef, q⟩ := h
  rcases ordD_some ef with ⟨i, j, rfl, rfl, rfl⟩ | ⟨h1, h2, h3, rfl⟩
  · cases hd; cases he
    exact op_ge pins s σ H _ _ v u Q I rx ry ⟨i, j, rfl, rfl, q _ F H (Alc.refl g) (.bl _)⟩
  · obtain ⟨as, r1⟩ := Dp.reads I d x v (dp_ext g hd) rx
    obtain ⟨bs, r2⟩ := Dp.reads I e y u (dp_ext g he) ry
    exact PySem.W.ge_data r1 r2 h1 h3 (SeqAt.room_of_shaped h2 hu) ⟨.bl _, H, I, rfl, q _ F H (Alc.refl g) (.bl _)⟩

/-! ### in, is -/
def inB : PyData → PyData → Option Bool
  | d, .list ds => if shp d && shp (.list ds) then some (ds.any fun z => PyData.eqv z d) else none
  | d, .tuple ds => if shp d && shp (.tuple ds) then some (ds.any fun z => PyData.eqv z d) else none
  | .str c, .str z => if c.length = 1 then some (decide (c.cps.getD 0 0 ∈ z.cps.toList)) else none
  | _, _ => none
def inD (d e : PyData) : Option PyData := (inB d e).map .bool
def notInD (d e : PyData) : Option PyData := (inB d e).map fun b => .bool !b
theorem one_sign {c : Str} (h : c.length = 1) : c = ⟨#[c.cps.getD 0 0]⟩ := by
  obtain ⟨⟨l⟩⟩ := c
  have h' : l.length = 1 := by simpa [Str.length] using h
  match l, h' with
  | [a], _ => rfl
theorem room_tup {A : Around} {d : PyData} {ds : List PyData} (h : SeqAt.shaped d = true) (hu : A.units + 65 < cLine) : A.units + 1 + min (PyData.depthAll ds) d.depth < cLine := by
  have h1 := SeqAt.depth_of_shaped h
  have h2 : min (PyData.depthAll ds) d.depth ≤ d.depth := Nat.min_le_right _ _
  omega
theorem in_run (hu : X.A.units + 65 < cLine) {pins : List (Addr × Obj)} {s : Shared} {σ : St} {H F : Hp} {x y : V} {v u : Value} {Q : VK} {d e : PyData} {b : Bool} (I : Inv X pins σ H s) (rx : RelV x v) (ry : RelV y u) (g : Grw F H) (hd : Dp X.K F x d) (he : Dp X.K F y e) (ef : inB d e = some b) :
    (Q (.bl b) H → wpAny (model X.prog X.w) X.A (compareOp .In v u) (EP X pins σ Q) X.xe s) ∧ (Q (.bl !b) H → wpAny (model X.prog X.w) X.A (compareOp .NotIn v u) (EP X pins σ Q) X.xe s) := by
  cases he with
  | lst hs he =>
    simp only [inB] at ef
    split at ef
    · rename_i hsh
      cases ef
      rw [Bool.and_eq_true] at hsh
      exact ⟨fun q => op_inD hu pins s σ H x _ v u Q I rx ry ⟨d, _, dp_ext g hd, dp_ext g (.lst hs he), hsh.1, hsh.2, q⟩, fun q => op_notInD hu pins s σ H x _ v u Q I rx ry ⟨d, _, dp_ext g hd, dp_ext g (.lst hs he), hsh.1, hsh.2, q⟩⟩
    · cases ef
  | tup hs he =>
    simp only [inB] at ef
    split at ef
    · rename_i hsh
      cases ef
      rw [Bool.and_eq_true] at hsh
      obtain ⟨as, r1⟩ := Dp.reads I d x v (dp_ext g hd) rx
      obtain ⟨bs, r2⟩ := Dp.reads I _ _ u (dp_ext g (.tup hs he)) ry
      exact ⟨fun q => SeqAt.in_tuple_reads r2 r1 (SeqAt.canLay_of_shaped hsh.2) (SeqAt.canLay_of_shaped hsh.1) (room_tup hsh.1 hu) ⟨.bl _, H, I, rfl, q⟩,
        fun q => SeqAt.notIn_tuple_reads r2 r1 (SeqAt.canLay_of_shaped hsh.2) (SeqAt.canLay_of_shaped hsh.1) (room_tup hsh.1 hu) ⟨.bl _, H, I, rfl, q⟩⟩
    · cases ef
  | str z =>
    cases hd with
    | str c =>
      simp only [inB] at ef
      split at ef
      · rename_i hc
        cases ef
        have e1 := one_sign hc
        exact ⟨fun q => op_in_sign pins s σ H _ _ v u Q I rx ry ⟨_, z, by rw [← e1], rfl, q⟩, fun q => op_notIn_sign pins s σ H _ _ v u Q I rx ry ⟨_, z, by rw [← e1], rfl, q⟩⟩
      · cases ef
    | _ => cases ef
  | _ => cases hd <;> cases ef
theorem opD_in (hu : X.A.units + 65 < cLine) : OpD X (compareOp .In) inD := by
  intro pins s σ H x y v u Q I rx ry h
  obtain ⟨F, d, e, z, g, hd, he, ef, q⟩ := h
  obtain ⟨b, eb, rfl⟩ := Option.map_eq_some_iff.mp ef
  exact (in_run hu I rx ry g hd he eb).1 (q _ F H (Alc.refl g) (.bl _))
theorem opD_notIn (hu : X.A.units + 65 < cLine) : OpD X (compareOp .NotIn) notInD := by
  intro pins s σ H x y v u Q I rx ry h
  obtain ⟨F, d, e, z, g, hd, he, ef, q⟩ := h
  obtain ⟨b, eb, rfl⟩ := Option.map_eq_some_iff.mp ef
  exact (in_run hu I rx ry g hd he eb).2 (q _ F H (Alc.refl g) (.bl _))
def isNoneB : PyData → Bool
  | .none => true
  | _ => false
def isB : PyData → PyData → Option Bool
  | d, .none => some (isNoneB d)
  | .bool a, .bool b => some (decide (a = b))
  | _, _ => none
def isD (d e : PyData) : Option PyData := (isB d e).map .bool
def isNotD (d e : PyData) : Option PyData := (isB d e).map fun b => .bool !b
theorem non_dp {K : PySem.W.Frag} {F : Hp} {x : V} {d : PyData} (h : Dp K F x d) : decide (x = .non) = isNoneB d := by
  cases h with
  | non => rfl
  | _ => exact decide_eq_false (fun z => by cases z)
theorem is_some {K : PySem.W.Frag} {F : Hp} {x y : V} {d e : PyData} {b : Bool} (hd : Dp K F x d) (he : Dp K F y e) (ef : isB d e = some b) : (y = .non ∧ decide (x = .non) = b) ∨ ∃ a c, x = .bl a ∧ y = .bl c ∧ decide (a = c) = b := by
  cases he with
  | non =>
    simp only [isB] at ef
    cases ef
    exact .inl ⟨rfl, non_dp hd⟩
  | bl c =>
    cases hd with
    | bl a =>
      simp only [isB] at ef
      cases ef
      exact .inr ⟨a, c, rfl, rfl, rfl⟩
    | _ => cases ef
  | _ => cases hd <;> cases ef
theorem opD_is : OpD X (compareOp .Is) isD := by
  intro pins s σ H x y v u Q I rx ry h
  obtain ⟨F, d, e, z, g, hd, he, ef, q⟩ := h
  obtain ⟨b, eb, rfl⟩ := Option.map_eq_some_iff.mp ef
  have q' := q _ F H (Alc.refl g) (.bl b)
  rcases is_some hd he eb with ⟨h1, h2⟩ | ⟨a, c, rfl, rfl, h2⟩
  · exact op_isN pins s σ H x y v u Q I rx ry ⟨h1, by rw [h2]; exact q'⟩
  · exact op_isBl pins s σ H _ _ v u Q I rx ry ⟨a, c, rfl, rfl, by rw [h2]; exact q'⟩
theorem opD_isNot : OpD X (compareOp .IsNot) isNotD := by
  intro pins s σ H x y v u Q I rx ry h
  obtain ⟨F, d, e, z, g, hd, he, ef, q⟩ := h
  obtain ⟨b, eb, rfl⟩ := Option.map_eq_some_iff.mp ef
  have q' := q _ F H (Alc.refl g) (.bl !b)
  rcases is_some hd he eb with ⟨h1, h2⟩ | ⟨a, c, rfl, rfl, h2⟩
  · exact op_notN pins s σ H x y v u Q I rx ry ⟨h1, by rw [h2]; exact q'⟩
  · exact op_notBl pins s σ H _ _ v u Q I rx ry ⟨a, c, rfl, rfl, by rw [h2]; exact q'⟩
end
end RH

/-! The data layer, part 10: items, slices, built-ins. -/
namespace RH
open PySem PySem.Spec L2

/-! ### items, slices -/
def ixD : PyData → PyData → Option PyData
  | .list xs, .int i => atI xs i
  | .tuple xs, .int i => atI xs i
  | .str z, .int i => if z.length ≤ 1000000 then (atI z.cps.toList i).map fun c => .str ⟨#[c]⟩ else none
  | _, _ => none
theorem atI_dp {K : PySem.W.Frag} {F : Hp} {vs : List V} {ds : List PyData} (h : DpAll K F vs ds) {i : Int} {z : PyData} (e : atI ds i = some z) : ∃ v, atI vs i = some v ∧ Dp K F v z := by
  obtain ⟨n, en, et⟩ := Option.bind_eq_some_iff.mp (show (ixN ds.length i).bind (fun k => ds[k]?) = some z from e)
  obtain ⟨u, hu, du⟩ := dps_at h et
  refine ⟨u, ?_, du⟩
  show (ixN vs.length i).bind (fun k => vs[k]?) = some u
  rw [dps_len h, en]
  exact hu
def cutL {α : Type} (xs : List α) (lo hi : Option Int) : List α := (xs.drop (HT.sIx xs.length 0 lo)).take (HT.sIx xs.length xs.length hi - HT.sIx xs.length 0 lo)
theorem cut_dp {K : PySem.W.Frag} {F : Hp} {vs : List V} {ds : List PyData} (h : DpAll K F vs ds) (lo hi : Option Int) : DpAll K F (cutV vs lo hi) (cutL ds lo hi) := by
  unfold cutV cutL
  rw [dps_len h]
  exact dps_take _ (dps_drop _ h)
def slD : PyData → Option Int → Option Int → Option PyData
  | .list xs, lo, hi => some (.list (cutL xs lo hi))
  | .tuple xs, lo, hi => some (.tuple (cutL xs lo hi))
  | .str z, lo, hi => if z.length ≤ 1000000 then some (.str (cutS z lo hi)) else none
  | _, _, _ => none
theorem cut_whole {α : Type} {xs : List α} {lo hi : Option Int} (h : HT.sIx xs.length 0 lo = 0 ∧ HT.sIx xs.length xs.length hi = xs.length) : cutL xs lo hi = xs := by
  unfold cutL
  rw [h.1, h.2]
  simp
section
variable {X : Cx}
theorem ixD_seq : IxD X ixD := ixD_of ix_seq fun F H x y d e z Q g hd he h q => by
  cases he with
  | int i =>
    cases hd with
    | lst hs hd =>
      obtain ⟨v, h1, h2⟩ := atI_dp hd h
      exact .inl ⟨_, _, i, v, rfl, rfl, sql_ext g hs, h1, q _ F H (Alc.refl g) h2⟩
    | tup hs hd =>
      obtain ⟨v, h1, h2⟩ := atI_dp hd h
      exact .inr (.inl ⟨_, _, i, v, rfl, rfl, sqt_ext g hs, h1, q _ F H (Alc.refl g) h2⟩)
    | str z =>
      simp only [ixD] at h
      split at h
      · rename_i hz
        obtain ⟨c, h1, rfl⟩ := Option.map_eq_some_iff.mp h
        exact .inr (.inr ⟨z, i, c, rfl, rfl, small_ok hz, h1, q _ F H (Alc.refl g) (.str _)⟩)
      · cases h
    | _ => cases h
  | _ => cases hd <;> cases h
/-- t[lo:hi]: the whole of it is t itself; a new one is an object without a dict -/
def rSlP (K : PySem.W.Frag) : V → Option Int → Option Int → Hp → VK → Prop := fun x lo hi H Q => ∃ a xs, x = .ref a ∧ SqT K H a xs ∧
  (HT.sIx xs.length 0 lo = 0 ∧ HT.sIx xs.length xs.length hi = xs.length → Q (.ref a) H) ∧ (¬ (HT.sIx xs.length 0 lo = 0 ∧ HT.sIx xs.length xs.length hi = xs.length) → ∀ p ob, ob.dict = none → H p = none → Q (.ref p) (upd H p (.frz ob (.tup (cutV xs lo hi)))))
theorem sl_tupP : SlR X (rSlP X.K) := by
  intro pins s σ H x v vl vu lo hi sl Q I rx hs pl pu h
  obtain ⟨a, xs, rfl, hx, q1, q2⟩ := h
  cases rx
  obtain ⟨its, r, ht, hz⟩ := I.tuple hx
  have hlen : its.toArray.size = xs.length := by rw [List.size_toArray]; exact r.length.symm
  refine ⟨"tuple", _, PyProof.Rows.slot_tuple_getitem.lookup, ht.typeIs, ?_⟩
  by_cases hw : HT.sIx xs.length 0 lo = 0 ∧ HT.sIx xs.length xs.length hi = xs.length
  · exact getItem_tuple_whole ht hs pl pu (by rw [hlen]; exact hw) ⟨.ref a, H, I, rfl, q1 hw⟩
  · refine HT.getItem_tuple_cut ht hs pl pu (by rw [hlen]; exact hw) ?_ (by rw [hlen]; exact hz)
    rw [hlen]
    exact ⟨.ref s.heap.objs.size, _, I.laid (t' := s.toks) (o := .frz _ (.tup (cutV xs lo hi))) (fun b ob q => Heap.get?_push_of_some _ q) (Nat.le_refl _) (frz_new (Heap.get?_push_size _ rfl) rfl _ rfl (Nat.le_trans (cutV_length xs lo hi) hz) ((r.drop (HT.sIx xs.length 0 lo)).take (HT.sIx xs.length xs.length hi - HT.sIx xs.length 0 lo))), rfl, q2 hw _ _ rfl (I.hok.fresh (Nat.le_refl _))⟩
/-- tuple(x): a new one is an object without a dict -/
def rTupOf (K : PySem.W.Frag) : List V → Hp → VK → Prop := fun xs H Q => ∃ p ys, xs = [.ref p] ∧ ((SqL K H p ys ∧ ∀ l ob, ob.dict = none → H l = none → Q (.ref l) (upd H l (.frz ob (.tup ys)))) ∨ (SqT K H p ys ∧ Q (.ref p) H))
theorem call_tupleP : CallR X (.type "tuple") (rTupOf X.K) := by
  intro pins s σ H xs us Q I r h
  obtain ⟨p, ys, rfl, h⟩ := h
  rcases h with ⟨hq, q⟩ | ⟨hq, q⟩
  · rw [Vals.ref1 r]
    obtain ⟨its, r', pl, hz⟩ := I.list hq
    have hlen := r'.length
    refine call_tuple_list pl.isList (fun h' kp => ?_) (by simp only [List.size_toArray] <;> omega)
    have I1 : Inv X pins σ H { s with heap := h' } := I.kept (t' := s.toks) kp
    exact ⟨.ref h'.objs.size, _, I1.laid (t' := s.toks) (fun b o e => Heap.get?_push_of_some _ e) (Nat.le_refl _) (frz_new (Heap.get?_push_size _ rfl) rfl 0 rfl hz r'), rfl, q _ _ rfl (I1.hok.fresh (Nat.le_refl _))⟩
  · exact call_tuple_of pins s σ H _ us Q I r ⟨p, ys, rfl, .inr ⟨hq, q⟩⟩
theorem slD_seq : SlD X slD := by
  refine slD_of (sl_list.or (sl_tupP.or sl_str)) fun F H x lo hi d z Q g hd h q => ?_
  cases hd with
  | lst hs hd =>
    cases h
    refine .inl ⟨_, _, rfl, sql_ext g hs, fun p hp => ?_⟩
    obtain ⟨a, d⟩ := new_lst g hp (cut_dp hd lo hi)
    exact q _ _ _ a d
  | tup hs hd =>
    cases h
    refine .inr (.inl ⟨_, _, rfl, sqt_ext g hs, fun hw => ?_, fun _ p ob ho hp => ?_⟩)
    · rw [dps_len hd] at hw
      rw [cut_whole hw] at q
      exact q _ F H (Alc.refl g) (.tup hs hd)
    · obtain ⟨a, d⟩ := new_tup ho g hp (cut_dp hd lo hi)
      exact q _ _ _ a d
  | str z =>
    simp only [slD] at h
    split at h
    · rename_i hz
      cases h
      exact .inr (.inr ⟨z, rfl, small_ok hz, q _ F H (Alc.refl g) (.str _)⟩)
    · cases h
  | _ => cases h
end

/-! ### built-ins -/
def one (f : PyData → Option PyData) : List PyData → Option PyData
  | [d] => f d
  | _ => none
theorem one_some {f : PyData → Option PyData} {ds : List PyData} {z : PyData} (h : one f ds = some z) : ∃ d, ds = [d] ∧ f d = some z := by
  unfold one at h
  split at h
  · exact ⟨_, rfl, h⟩
  · cases h
def lenD1 : PyData → Option PyData
  | .list xs => some (.int xs.length)
  | .tuple xs => some (.int xs.length)
  | .str z => if z.length ≤ 1000000 then some (.int z.length) else none
  | _ => none
def lenD := one lenD1
def boolsOf : List PyData → Option (List Bool)
  | [] => some []
  | .bool b :: r => (boolsOf r).map (b :: ·)
  | _ :: _ => none
def intsOf : List PyData → Option (List Int)
  | [] => some []
  | .int b :: r => (intsOf r).map (b :: ·)
  | _ :: _ => none
theorem boolsOf_some : ∀ {ds : List PyData} {bs : List Bool}, boolsOf ds = some bs → ds = bs.map .bool
  | [], bs, h => by cases h; rfl
  | d :: r, bs, h => by
    cases d with
    | bool b =>
      obtain ⟨cs, h1, rfl⟩ := Option.map_eq_some_iff.mp h
      rw [boolsOf_some h1] <;> rfl
    | _ => cases h
theorem intsOf_some : ∀ {ds : List PyData} {bs : List Int}, intsOf ds = some bs → ds = bs.map .int
  | [], bs, h => by cases h; rfl
  | d :: r, bs, h => by
    cases d with
    | int b =>
      obtain ⟨cs, h1, rfl⟩ := Option.map_eq_some_iff.mp h
      rw [intsOf_some h1] <;> rfl
    | _ => cases h
theorem intsOf_map : ∀ ns : List Int, intsOf (ns.map .int) = some ns
  | [] => rfl
  | n :: r => by
    show (intsOf (r.map .int)).map (n :: ·) = _
    rw [intsOf_map r] <;> rfl
def allD1 : PyData → Option PyData
  | .list xs => (boolsOf xs).map fun bs => .bool (bs.all id)
  | _ => none
def allD := one allD1
def anyD1 : PyData → Option PyData
  | .list xs => (boolsOf xs).map fun bs => .bool (bs.any id)
  | _ => none
def anyD := one anyD1
def sumD1 : PyData → Option PyData
  | .list xs => (intsOf xs).map fun bs => .int bs.sum
  | _ => none
def sumD := one sumD1
def absD1 : PyData → Option PyData
  | .int i => some (.int (if i < 0 then -i else i))
  | _ => none
def absD := one absD1
def intD1 : PyData → Option PyData
  | .int i => some (.int i)
  | .bool k => some (.int (if k then 1 else 0))
  | .str a => if a.length ≤ 640 then (PySem.intText? a).map .int else none
  | _ => none
def intD := one intD1
def tupleD1 : PyData → Option PyData
  | .list xs => some (.tuple xs)
  | .tuple xs => some (.tuple xs)
  | _ => none
def tupleD := one tupleD1
def listD1 : PyData → Option PyData
  | .list xs => some (.list xs)
  | .tuple xs => some (.list xs)
  | _ => none
def listD := one listD1
def alikeB (xs : List PyData) : Bool := xs.all (fun x => xs.all fun y => PySem.W.alike x y) && xs.all fun x => match x with | .none => false | _ => true
theorem alikeB_iff {xs : List PyData} (h : alikeB xs = true) : PySem.W.AlikeAll xs := by
  unfold alikeB at h
  rw [Bool.and_eq_true] at h
  refine ⟨fun x hx y hy => ?_, fun x hx z => ?_⟩
  · exact List.all_eq_true.mp (List.all_eq_true.mp h.1 x hx) y hy
  · have := List.all_eq_true.mp h.2 x hx
    rw [z] at this
    cases this
/-- the first of the least -/
def minL : List PyData → Option PyData
  | [] => none
  | x :: xs => match intsOf (x :: xs) with
    | some (n :: ns) => some (.int (ns.foldl min n))
    | _ => if alikeB (x :: xs) && shp (.list (x :: xs)) then some (PySem.W.minD x xs) else none
def maxL : List PyData → Option PyData
  | [] => none
  | x :: xs => match intsOf (x :: xs) with
    | some (n :: ns) => some (.int (ns.foldl max n))
    | _ => if alikeB (x :: xs) && shp (.list (x :: xs)) then some (PySem.W.maxD x xs) else none
def minD' : List PyData → Option PyData
  | [.list xs] => minL xs
  | [.int i, .int j] => some (.int (if j < i then j else i))
  | _ => none
def maxD' : List PyData → Option PyData
  | [.list xs] => maxL xs
  | [.int i, .int j] => some (.int (if j > i then j else i))
  | _ => none
section
variable {X : Cx}
theorem vlen {K : PySem.W.Frag} {F : Hp} {v : V} {d : PyData} (h : Dp K F v d) : DpAll K F [v] [d] := .cons h .nil
theorem callD_len : CallD X (.builtin "len") lenD := callD_of (call_len_seq.or call_len_str) fun F H xs ds z Q g hd h q => by
  obtain ⟨d, rfl, h'⟩ := one_some h
  clear h
  have h := h'
  clear h'
  cases hd with
  | cons hd ht =>
    cases ht
    cases hd with
    | lst hs hd =>
      cases h
      refine .inl ⟨_, _, rfl, .inl (sql_ext g hs), ?_⟩
      rw [dps_len hd]
      exact q _ F H (Alc.refl g) (.int _)
    | tup hs hd =>
      cases h
      refine .inl ⟨_, _, rfl, .inr (sqt_ext g hs), ?_⟩
      rw [dps_len hd]
      exact q _ F H (Alc.refl g) (.int _)
    | str z =>
      simp only [lenD1] at h
      split at h
      · rename_i hz
        cases h
        exact .inr ⟨z, rfl, small_ok hz, q _ F H (Alc.refl g) (.int _)⟩
      · cases h
    | _ => cases h
theorem callD_all (hc : X.calm = true) : CallD X (.builtin "all") allD := callD_of (cr_all hc) fun F H xs ds z Q g hd h q => by
  obtain ⟨d, rfl, h'⟩ := one_some h
  clear h
  have h := h'
  clear h'
  cases hd with
  | cons hd ht =>
    cases ht
    cases hd with
    | lst hs hd =>
      obtain ⟨bs, h1, rfl⟩ := Option.map_eq_some_iff.mp h
      have e1 := boolsOf_some h1
      subst e1
      have e2 := bools_dps hd
      subst e2
      exact ⟨_, bs, rfl, sql_ext g hs, q _ F H (Alc.refl g) (.bl _)⟩
    | _ => cases h
theorem callD_any (hc : X.calm = true) : CallD X (.builtin "any") anyD := callD_of (cr_any hc) fun F H xs ds z Q g hd h q => by
  obtain ⟨d, rfl, h'⟩ := one_some h
  clear h
  have h := h'
  clear h'
  cases hd with
  | cons hd ht =>
    cases ht
    cases hd with
    | lst hs hd =>
      obtain ⟨bs, h1, rfl⟩ := Option.map_eq_some_iff.mp h
      have e1 := boolsOf_some h1
      subst e1
      have e2 := bools_dps hd
      subst e2
      exact ⟨_, bs, rfl, sql_ext g hs, q _ F H (Alc.refl g) (.bl _)⟩
    | _ => cases h
theorem callD_sum (hc : X.calm = true) : CallD X (.builtin "sum") sumD := callD_of (cr_sum hc) fun F H xs ds z Q g hd h q => by
  obtain ⟨d, rfl, h'⟩ := one_some h
  clear h
  have h := h'
  clear h'
  cases hd with
  | cons hd ht =>
    cases ht
    cases hd with
    | lst hs hd =>
      obtain ⟨bs, h1, rfl⟩ := Option.map_eq_some_iff.mp h
      have e1 := intsOf_some h1
      subst e1
      have e2 := ints_dps hd
      subst e2
      exact ⟨_, bs, rfl, sql_ext g hs, q _ F H (Alc.refl g) (.int _)⟩
    | _ => cases h
theorem callD_abs : CallD X (.builtin "abs") absD := callD_of call_abs fun F H xs ds z Q g hd h q => by
  obtain ⟨d, rfl, h'⟩ := one_some h
  clear h
  have h := h'
  clear h'
  cases hd with
  | cons hd ht =>
    cases ht
    cases hd with
    | int i =>
      cases h
      exact ⟨i, rfl, q _ F H (Alc.refl g) (.int _)⟩
    | _ => cases h
theorem callD_int : CallD X (.type "int") intD := callD_of (call_int1.or call_int_str) fun F H xs ds z Q g hd h q => by
  obtain ⟨d, rfl, h'⟩ := one_some h
  clear h
  have h := h'
  clear h'
  cases hd with
  | cons hd ht =>
    cases ht
    cases hd with
    | int i =>
      cases h
      exact .inl (.inl ⟨i, rfl, q _ F H (Alc.refl g) (.int _)⟩)
    | bl k =>
      cases h
      exact .inl (.inr ⟨k, rfl, q _ F H (Alc.refl g) (.int _)⟩)
    | str a =>
      simp only [intD1] at h
      split at h
      · rename_i hz
        obtain ⟨n, h1, rfl⟩ := Option.map_eq_some_iff.mp h
        exact .inr ⟨a, n, rfl, h1, hz, q _ F H (Alc.refl g) (.int _)⟩
      · cases h
    | _ => cases h
theorem callD_tuple : CallD X (.type "tuple") tupleD := callD_of call_tupleP fun F H xs ds z Q g hd h q => by
  obtain ⟨d, rfl, h'⟩ := one_some h
  clear h
  have h := h'
  clear h'
  cases hd with
  | cons hd ht =>
    cases ht
    cases hd with
    | lst hs hd =>
      cases h
      refine ⟨_, _, rfl, .inl ⟨sql_ext g hs, fun p ob ho hp => ?_⟩⟩
      obtain ⟨a, d⟩ := new_tup ho g hp hd
      exact q _ _ _ a d
    | tup hs hd =>
      cases h
      exact ⟨_, _, rfl, .inr ⟨sqt_ext g hs, q _ F H (Alc.refl g) (.tup hs hd)⟩⟩
    | _ => cases h
theorem callD_list : CallD X (.type "list") listD := callD_of call_list_of fun F H xs ds z Q g hd h q => by
  obtain ⟨d, rfl, h'⟩ := one_some h
  clear h
  have h := h'
  clear h'
  cases hd with
  | cons hd ht =>
    cases ht
    cases hd with
    | lst hs hd =>
      cases h
      refine ⟨_, _, rfl, .inl (sql_ext g hs), fun p hp => ?_⟩
      obtain ⟨a, d⟩ := new_lst g hp hd
      exact q _ _ _ a d
    | tup hs hd =>
      cases h
      refine ⟨_, _, rfl, .inr (sqt_ext g hs), fun p hp => ?_⟩
      obtain ⟨a, d⟩ := new_lst g hp hd
      exact q _ _ _ a d
    | _ => cases h

/-! ### min, max -/
theorem foldl_min_le : ∀ (ns : List Int) (n : Int), ns.foldl min n ≤ n ∧ (∀ m ∈ ns, ns.foldl min n ≤ m) ∧ (ns.foldl min n = n ∨ ns.foldl min n ∈ ns)
  | [], n => ⟨Int.le_refl _, (fun _ h => by cases h), .inl rfl⟩
  | k :: r, n => by
    obtain ⟨h1, h2, h3⟩ := foldl_min_le r (min n k)
    rw [List.foldl_cons]
    refine ⟨by omega, fun m hm => ?_, ?_⟩
    · rcases List.mem_cons.mp hm with rfl | hm
      · omega
      · exact h2 m hm
    · rcases h3 with h3 | h3
      · rcases (by omega : min n k = n ∨ min n k = k) with e | e
        · rw [e] at h3 ⊢
          exact .inl h3
        · rw [e] at h3 ⊢
          exact .inr (List.mem_cons.mpr (.inl h3))
      · exact .inr (List.mem_cons_of_mem _ h3)
theorem foldl_max_le : ∀ (ns : List Int) (n : Int), n ≤ ns.foldl max n ∧ (∀ m ∈ ns, m ≤ ns.foldl max n) ∧ (ns.foldl max n = n ∨ ns.foldl max n ∈ ns)
  | [], n => ⟨Int.le_refl _, (fun _ h => by cases h), .inl rfl⟩
  | k :: r, n => by
    obtain ⟨h1, h2, h3⟩ := foldl_max_le r (max n k)
    rw [List.foldl_cons]
    refine ⟨by omega, fun m hm => ?_, ?_⟩
    · rcases List.mem_cons.mp hm with rfl | hm
      · omega
      · exact h2 m hm
    · rcases h3 with h3 | h3
      · rcases (by omega : max n k = n ∨ max n k = k) with e | e
        · rw [e] at h3 ⊢
          exact .inl h3
        · rw [e] at h3 ⊢
          exact .inr (List.mem_cons.mpr (.inl h3))
      · exact .inr (List.mem_cons_of_mem _ h3)
theorem paired_at {α β : Type} {R : α → β → Prop} : ∀ {xs : List α} {ys : List β}, Paired R xs ys → ∀ {i : Nat} {y : β}, ys[i]? = some y → ∃ x, xs[i]? = some x ∧ R x y
  | _, _, .nil, _, _, h => by simp at h
  | _, _, .cons r t, 0, y, h => by simp at h; subst h; exact ⟨_, rfl, r⟩
  | _, _, .cons r t, i + 1, y, h => by
    obtain ⟨x, h1, h2⟩ := paired_at t (i := i) (y := y) (by simpa using h)
    exact ⟨x, by simpa using h1, h2⟩
theorem minD_mem : ∀ (xs : List PyData) (x : PyData), PySem.W.minD x xs ∈ x :: xs
  | [], x => List.mem_singleton.mpr rfl
  | y :: r, x => by
    unfold PySem.W.minD
    rw [List.foldl_cons]
    by_cases h : PySem.W.dataLt y x = true
    · rw [if_pos h]
      exact List.mem_cons_of_mem _ (minD_mem r y)
    · rw [if_neg h]
      rcases List.mem_cons.mp (minD_mem r x) with e | e
      · exact List.mem_cons.mpr (.inl e)
      · exact List.mem_cons_of_mem _ (List.mem_cons_of_mem _ e)
theorem maxD_mem : ∀ (xs : List PyData) (x : PyData), PySem.W.maxD x xs ∈ x :: xs
  | [], x => List.mem_singleton.mpr rfl
  | y :: r, x => by
    unfold PySem.W.maxD
    rw [List.foldl_cons]
    by_cases h : PySem.W.dataLt x y = true
    · rw [if_pos h]
      exact List.mem_cons_of_mem _ (maxD_mem r y)
    · rw [if_neg h]
      rcases List.mem_cons.mp (maxD_mem r x) with e | e
      · exact List.mem_cons.mpr (.inl e)
      · exact List.mem_cons_of_mem _ (List.mem_cons_of_mem _ e)
theorem readsAll_get {h : Heap} : ∀ {vs : List Value} {xs : List PyData} {as : List Addr}, ReadsAll h vs xs as → ∀ {i : Nat} {v : Value} {d : PyData}, vs[i]? = some v → xs[i]? = some d → ∃ bs, Reads h v d bs
  | _, _, _, .nil, _, _, _, hv, _ => by simp at hv
  | _, _, _, .cons r rs, 0, v, d, hv, hd => by
    simp at hv hd
    subst hv hd
    exact ⟨_, r⟩
  | _, _, _, .cons r rs, i + 1, v, d, hv, hd => readsAll_get rs (i := i) (by simpa using hv) (by simpa using hd)
theorem shp_depth {d : PyData} (h : shp d = true) : d.depth ≤ 64 := SeqAt.depth_of_shaped h
theorem depth_list (xs : List PyData) : (PyData.list xs).depth = PyData.depthAll xs + 1 := by simp [PyData.depth]
section
variable {pins : List (Addr × Obj)} {s : Shared} {σ : St} {H F : Hp} {a : Addr} {xs : List V} {x : PyData} {ds : List PyData} {Q : VK} {m : PyData}
theorem pick_run (I : Inv X pins σ H s) {its : List Value} {as : List Addr} (r : Vals xs its) (hd : DpAll X.K F xs (x :: ds)) (ra : ReadsAll s.heap its (x :: ds) as) (al : PySem.W.AlikeAll (x :: ds)) (hm : m ∈ x :: ds) (g : Grw F H) (q : ∀ v F' H', Alc F H F' H' → Dp X.K F' v m → Q v H') :
    ∀ (i : Nat) v h' tk bs, its.toArray[i]? = some v → Reads h' v m bs → (∀ b o, s.heap.get? b = some o → h'.get? b = some o) → EP X pins σ Q v { s with heap := h', toks := tk } := by
  intro i v h' tk bs hv hr hk
  have hv' : its[i]? = some v := by simpa using hv
  obtain ⟨y, h1, h2⟩ := paired_at r hv'
  obtain ⟨d, h3, h4⟩ := dps_at' hd h1
  obtain ⟨bs2, r2⟩ := readsAll_get ra hv' h3
  have e : d = m := PySem.W.alike_unique d m v _ _ (al.1 d (List.mem_of_getElem? h3) m hm) (PyProof.Rows.Reads.keeps hk r2) hr
  subst e
  exact ⟨y, H, I.kept hk, h2, q y F H (Alc.refl g) h4⟩
end
theorem cr_minD (hc : X.calm = true) (hu : X.A.units + 65 < cLine) : CallD X (.builtin "min") minD' := by
  intro pins s σ H xs us Q I r h
  obtain ⟨F, ds, z, g, hd, ef, q⟩ := h
  match ds, hd, ef with
  | [.int i, .int j], .cons hi (.cons hj .nil), ef =>
    cases hi; cases hj; cases ef
    exact call_min2 hc pins s σ H _ us Q I r ⟨i, j, rfl, q _ F H (Alc.refl g) (.int _)⟩
  | [.list (x :: ds)], .cons hd .nil, ef =>
    cases hd with
    | lst hs hd =>
      simp only [minD', minL] at ef
      split at ef
      · rename_i n ns e1
        have e2 := intsOf_some e1
        cases ef
        rw [e2] at hd
        have e3 := ints_dps hd
        subst e3
        refine cr_min hc pins s σ H _ us Q I r ⟨_, n :: ns, rfl, sql_ext g hs, by simp, fun m hm hle => ?_⟩
        obtain ⟨h1, h2, h3⟩ := foldl_min_le ns n
        have e : m = ns.foldl min n := by
          have a1 := hle (ns.foldl min n) (by rcases h3 with h3 | h3; rw [h3]; exact List.mem_cons_self; exact List.mem_cons_of_mem _ h3)
          rcases List.mem_cons.mp hm with rfl | hm
          · omega
          · have := h2 m hm
            omega
        subst e
        exact q _ F H (Alc.refl g) (.int _)
      · split at ef
        · rename_i hal
          cases ef
          rw [Bool.and_eq_true] at hal
          have al := alikeB_iff hal.1
          obtain ⟨its, rv, pl, hz⟩ := I.list (sql_ext g hs)
          obtain ⟨as, ra⟩ := Dp.readsAll I _ _ its (dps_ext g hd) rv
          rw [Vals.ref1 r]
          have hdep := shp_depth hal.2
          rw [depth_list] at hdep
          exact PySem.W.min_list_data (I.ok.hd hc) pl.isList (by simpa using ra) al (by omega) (pick_run I rv hd ra al (minD_mem ds x) g q)
        · cases ef
  | [.list []], .cons hd .nil, ef => cases ef
  | [], _, ef => cases ef
theorem cr_maxD' (hc : X.calm = true) (hu : X.A.units + 65 < cLine) : CallD X (.builtin "max") maxD' := by
  intro pins s σ H xs us Q I r h
  obtain ⟨F, ds, z, g, hd, ef, q⟩ := h
  match ds, hd, ef with
  | [.int i, .int j], .cons hi (.cons hj .nil), ef =>
    cases hi; cases hj; cases ef
    exact call_max2 hc pins s σ H _ us Q I r ⟨i, j, rfl, q _ F H (Alc.refl g) (.int _)⟩
  | [.list (x :: ds)], .cons hd .nil, ef =>
    cases hd with
    | lst hs hd =>
      simp only [maxD', maxL] at ef
      split at ef
      · rename_i n ns e1
        have e2 := intsOf_some e1
        cases ef
        rw [e2] at hd
        have e3 := ints_dps hd
        subst e3
        refine cr_max hc pins s σ H _ us Q I r ⟨_, n :: ns, rfl, sql_ext g hs, by simp, fun m hm hle => ?_⟩
        obtain ⟨h1, h2, h3⟩ := foldl_max_le ns n
        have e : m = ns.foldl max n := by
          have a1 := hle (ns.foldl max n) (by rcases h3 with h3 | h3; rw [h3]; exact List.mem_cons_self; exact List.mem_cons_of_mem _ h3)
          rcases List.mem_cons.mp hm with rfl | hm
          · omega
          · have := h2 m hm
            omega
        subst e
        exact q _ F H (Alc.refl g) (.int _)
      · split at ef
        · rename_i hal
          cases ef
          rw [Bool.and_eq_true] at hal
          have al := alikeB_iff hal.1
          obtain ⟨its, rv, pl, hz⟩ := I.list (sql_ext g hs)
          obtain ⟨as, ra⟩ := Dp.readsAll I _ _ its (dps_ext g hd) rv
          rw [Vals.ref1 r]
          have hdep := shp_depth hal.2
          rw [depth_list] at hdep
          exact PySem.W.max_list_data (I.ok.hd hc) pl.isList (by simpa using ra) al (by omega) (pick_run I rv hd ra al (maxD_mem ds x) g q)
        · cases ef
  | [.list []], .cons hd .nil, ef => cases ef
  | [], _, ef => cases ef
end
end RH

/-! The data layer, part 11: sorted, isinstance, index, the roads to each construct. -/
namespace RH
open PySem PySem.Spec L2

/-! ### sorted -/
def leT (x y : PyData) : Bool := !PySem.W.dataLt y x
theorem leT_eq : leT = PySem.W.dataLe false (fun d : PyData => d) := rfl
theorem leT_total : PySem.W.TotalLe leT := by
  rw [leT_eq]
  exact PySem.W.sortLe_total _ _ _
def insD (x : PyData) : List PyData → List PyData
  | [] => [x]
  | y :: ys => if leT x y then x :: y :: ys else y :: insD x ys
def isort : List PyData → List PyData
  | [] => []
  | x :: xs => insD x (isort xs)
theorem insD_mem {x z : PyData} : ∀ {l : List PyData}, z ∈ insD x l → z = x ∨ z ∈ l
  | [], h => .inl (List.mem_singleton.mp h)
  | y :: ys, h => by
    unfold insD at h
    split at h
    · exact List.mem_cons.mp h
    · rcases List.mem_cons.mp h with h | h
      · exact .inr (List.mem_cons.mpr (.inl h))
      · rcases insD_mem h with h | h
        · exact .inl h
        · exact .inr (List.mem_cons_of_mem _ h)
theorem insD_pw {x : PyData} : ∀ {l : List PyData}, l.Pairwise (fun a b => leT a b = true) → (insD x l).Pairwise fun a b => leT a b = true
  | [], _ => by simp [insD]
  | y :: ys, h => by
    unfold insD
    have hy := List.pairwise_cons.mp h
    split
    · rename_i hl
      refine List.pairwise_cons.mpr ⟨fun z hz => ?_, h⟩
      rcases List.mem_cons.mp hz with rfl | hz
      · exact hl
      · exact leT_total.trans _ _ _ hl (hy.1 z hz)
    · rename_i hl
      refine List.pairwise_cons.mpr ⟨fun z hz => ?_, insD_pw hy.2⟩
      rcases insD_mem hz with rfl | hz
      · exact (leT_total.total z y).resolve_left hl
      · exact hy.1 z hz
theorem insD_rank {x c : PyData} : ∀ {l : List PyData}, (insD x l).filter (PySem.W.sameRank leT c) = (x :: l).filter (PySem.W.sameRank leT c)
  | [] => rfl
  | y :: ys => by
    unfold insD
    split
    · rfl
    · rename_i hl
      rw [List.filter_cons, insD_rank, List.filter_cons (x := x), List.filter_cons (x := x) (xs := y :: ys), List.filter_cons (x := y)]
      cases hx : PySem.W.sameRank leT c x with
      | false => rfl
      | true =>
        cases hy : PySem.W.sameRank leT c y with
        | false => rfl
        | true =>
          exfalso
          apply hl
          unfold PySem.W.sameRank at hx hy
          rw [Bool.and_eq_true] at hx hy
          exact leT_total.trans _ _ _ hx.2 hy.1
theorem isort_eq (l : List PyData) : isort l = l.mergeSort leT := by
  refine PySem.W.sort_unique leT_total ?_ fun c => ?_
  · induction l with
    | nil => exact List.Pairwise.nil
    | cons x xs ih => exact insD_pw ih
  · induction l with
    | nil => rfl
    | cons x xs ih =>
      show (insD x (isort xs)).filter _ = _
      rw [insD_rank, List.filter_cons, ih, List.filter_cons]
def tupNe : PyData → Bool
  | .tuple (_ :: _) => true
  | _ => false
def notTup : PyData → Bool
  | .tuple _ => false
  | .none => false
  | _ => true
def sortOk (xs : List PyData) : Bool := (xs.all fun x => xs.all fun y => PySem.W.alike x y) && (xs.all tupNe || xs.all notTup) && xs.all shp && decide (xs.length ≤ 1000000)
def sortedD1 : PyData → Option PyData
  | .list xs => if sortOk xs then some (.list (isort xs)) else none
  | _ => none
def sortedD := one sortedD1
theorem sortable_of {xs : List PyData} (h : (xs.all tupNe || xs.all notTup) = true) : PySem.W.Sortable xs := by
  rw [Bool.or_eq_true] at h
  rcases h with h | h
  · refine .inl fun d hd => ?_
    have := List.all_eq_true.mp h d hd
    cases d with
    | tuple l =>
      cases l with
      | nil => cases this
      | cons x r => exact ⟨x, r, rfl⟩
    | _ => cases this
  · refine .inr fun d hd => ?_
    have := List.all_eq_true.mp h d hd
    cases d with
    | none => cases this
    | tuple l => cases this
    | _ => exact ⟨fun z => (by cases z), fun xs z => (by cases z)⟩
theorem each_zip {K : PySem.W.Frag} {F : Hp} : ∀ {vs : List V} {ds : List PyData} {us : List Value}, DpAll K F vs ds → Vals vs us → PySem.W.EachIs (fun u (b : V × PyData) => RelV b.1 u ∧ Dp K F b.1 b.2) us (vs.zip ds) ∧ (vs.zip ds).map Prod.snd = ds
  | _, _, _, .nil, .nil => ⟨.nil, rfl⟩
  | _, _, _, .cons h t, .cons r s => by
    obtain ⟨h1, h2⟩ := each_zip t s
    exact ⟨.cons ⟨r, h⟩ h1, by rw [List.zip_cons_cons, List.map_cons, h2]⟩
theorem vals_each {K : PySem.W.Frag} {F : Hp} : ∀ {us : List Value} {bs : List (V × PyData)}, PySem.W.EachIs (fun u (b : V × PyData) => RelV b.1 u ∧ Dp K F b.1 b.2) us bs → Vals (bs.map Prod.fst) us ∧ DpAll K F (bs.map Prod.fst) (bs.map Prod.snd)
  | _, _, .nil => ⟨.nil, .nil⟩
  | _, _, .cons ⟨h1, h2⟩ t => by
    obtain ⟨q1, q2⟩ := vals_each t
    exact ⟨.cons h1 q1, .cons h2 q2⟩
theorem zip_sort {zs : List (V × PyData)} {ds : List PyData} (e : zs.map Prod.snd = ds) : (zs.mergeSort (PySem.W.dataLe false fun b : V × PyData => b.2)).map Prod.snd = isort ds := by
  rw [isort_eq, ← e, leT_eq]
  exact PySem.W.sort_maps Prod.snd fun a _ b _ => rfl
section
variable {X : Cx}
theorem callD_sorted (hu : X.A.units + 67 < cLine) : CallD X (.builtin "sorted") sortedD := by
  intro pins s σ H xs us Q I r h
  obtain ⟨F, ds, z, g, hd, ef, q⟩ := h
  obtain ⟨d, rfl, ef'⟩ := one_some ef
  clear ef
  have ef := ef'
  clear ef'
  cases hd with
  | cons hd ht =>
    cases ht
    cases hd with
    | lst hs hd =>
      simp only [sortedD1] at ef
      split at ef
      · rename_i hok
        cases ef
        unfold sortOk at hok
        rw [Bool.and_eq_true, Bool.and_eq_true, Bool.and_eq_true] at hok
        obtain ⟨⟨⟨h1, h2⟩, h3⟩, h4⟩ := hok
        obtain ⟨its, rv, pl, hz⟩ := I.list (sql_ext g hs)
        rw [Vals.ref1 r]
        obtain ⟨ez, em⟩ := each_zip hd rv
        have hl : (List.zip _ _).length = _ := ez.length.symm
        refine PySem.W.sorted_data (enc := fun b : V × PyData => b.2) pl.isList ez (ez.mono fun u b ⟨ru, db⟩ => Dp.reads I b.2 b.1 u (dp_ext g db) ru) (by rw [em]; exact fun x hx y hy => List.all_eq_true.mp (List.all_eq_true.mp h1 x hx) y hy) (by rw [em]; exact sortable_of h2) ?_ ?_ fun out hlen eo => ?_
        · rw [hl, ← rv.length]
          exact hz
        · intro b hb
          have hm : b.2 ∈ List.map Prod.snd (List.zip _ _) := List.mem_map.mpr ⟨b, hb, rfl⟩
          rw [em] at hm
          have := shp_depth (List.all_eq_true.mp h3 _ hm)
          omega
        · obtain ⟨v1, d1⟩ := vals_each eo
          rw [zip_sort em] at d1
          have hlen2 := v1.length
          obtain ⟨e, he⟩ := PyProof.Rows.sortedAll_at s.heap its out.toArray
          have hf := I.hok.fresh (Nat.le_succ s.heap.objs.size)
          obtain ⟨a, d⟩ := new_lst g hf d1
          refine ⟨.ref (s.heap.objs.size + 1), _, I.laid (t' := s.toks) (o := .lst (List.map Prod.fst (List.mergeSort _ _))) (fun b o eb => PyProof.Rows.sortedAll_old eb) (Nat.le_succ _) ⟨?_, out, e, v1, he⟩, rfl, q _ _ _ a d⟩
          rw [hlen2, hlen, hl, ← rv.length]
          exact hz
      · cases ef
    | _ => cases ef
end

/-! ### isinstance -/
structure IsiT (T : String) (f : PyData → Bool) : Prop where
  run : ∀ (prog : Program) (w : World) (A : Around) (s : Shared) (v : Value) (d : PyData) (as : List Addr) (Q E : Value → Shared → Prop), Reads s.heap v d as → (∀ tk, s.toks ≤ tk → Q (.bool (f d)) { s with toks := tk }) → wpAny (model prog w) A (call (.builtin "isinstance") [v, .type T]) Q E s
theorem isi_int : IsiT "int" PyData.isInt := ⟨fun _ _ _ _ _ _ _ _ _ r h => PySem.W.isinstance_int_data r h⟩
theorem isi_bool : IsiT "bool" PyData.isBool := ⟨fun _ _ _ _ _ _ _ _ _ r h => PySem.W.isinstance_bool_data r h⟩
theorem isi_str : IsiT "str" PyData.isStr := ⟨fun _ _ _ _ _ _ _ _ _ r h => PySem.W.isinstance_str_data r h⟩
theorem isi_list : IsiT "list" PyData.isList := ⟨fun _ _ _ _ _ _ _ _ _ r h => PySem.W.isinstance_list_data r h⟩
theorem isi_tuple : IsiT "tuple" PyData.isTuple := ⟨fun _ _ _ _ _ _ _ _ _ r h => PySem.W.isinstance_tuple_data r h⟩
theorem isi_dict : IsiT "dict" PyData.isDict := ⟨fun _ _ _ _ _ _ _ _ _ r h => PySem.W.isinstance_dict_data r h⟩
def isiM (f : PyData → Bool) (m : M PyData) : M PyData := m1 (fun d => some (.bool (f d))) m
section
variable {X : Cx} {C : Lx} {Wx : WX} {p q pos : Pos} {e : Expr} {m : M PyData} {x : Str} {T : String} {f : PyData → Bool}
theorem pd_isi (ht : IsiT T f) (hK : C.K = X.K) (he : PD X C Wx e m) (hm : X.mg "isinstance" = none) (hx : X.mg x = none) (hv : bootBuiltins x = some (.type T)) (hg : Gl X "isinstance" := by rfl) (hgx : Gl X x := by rfl) (hn : x ≠ "__name__" := by decide) (hdb : (x == ("__debug__" : Str)) = false := by decide)
    (hs1 : starEach [e, .Name x q] X.env = (false, eval e X.env) :: starEach [.Name x q] X.env := by rfl) (hs2 : starEach [.Name x q] X.env = (false, eval (.Name x q) X.env) :: starEach [] X.env := by rfl)
    (hpl : (backTo pos (starEach [.Name x q] X.env)).any (·.1) = false := by rfl) : PD X C Wx (.Call (.Name "isinstance" p) [e, .Name x q] [] pos) (isiM f m) := by
  have hc : CallR X (.builtin "isinstance") (fun xs H Q => ∃ y d, xs = [y, .ty T] ∧ Dp X.K H y d ∧ Q (.bl (f d)) H) := by
    intro pins s σ H xs us Q I r h
    obtain ⟨y, d, rfl, hd, qq⟩ := h
    cases r with
    | cons r1 r2 =>
      cases r2 with
      | cons r3 r4 =>
        cases r4
        cases r3
        obtain ⟨as, ra⟩ := Dp.reads I d y _ hd r1
        exact ht.run _ _ _ _ _ _ _ _ _ ra fun tk _ => ⟨.bl (f d), H, I.tok tk, rfl, qq⟩
  refine pe_weak (pe_callB hc hg hm PyProof.Rows.boot_isinstance (pa_cons he (pa_cons (pe_bltn (v := .ty T) hgx hx hv rfl hn hdb) pa_nil hs2) hs1) (by decide) (by decide) hs1 hpl) fun σ H Q qq => tE_use qq fun δ w F S h => ?_
  refine tE_then S h fun d δ1 w1 F1 H1 v S1 g1 hv h1 => ?_
  obtain ⟨z, ez, q2⟩ := tAt_lift h1
  cases ez
  exact ⟨v, d, rfl, by rw [← hK]; exact dp_ext S1.sub hv, q2 w1 F1 H1 S1 S1.here _ (.bl _)⟩
end

/-! ### the roads to operators and built-ins -/
section
variable {X : Cx} {C : Lx} {Wx : WX} {p pos p2 : Pos} {a b c e : Expr} {es : List Expr} {ma mb mc m : M PyData} {ms : M (List PyData)} {f g : PyData → PyData → Option PyData}
theorem pd_opD {op : Operator} (ho : OpD X (binaryOp op) f) (hK : C.K = X.K) (ha : PD X C Wx a ma) (hb : PD X C Wx b mb) : PD X C Wx (.BinOp a op b pos) (m2 f ma mb) := pd_op ho (by rw [hK]; exact rd2 _ _) ha hb
theorem pd_unD {op : UnaryOp} {f : PyData → Option PyData} (ho : UnD X (unaryOp op) f) (hK : C.K = X.K) (ha : PD X C Wx a ma) : PD X C Wx (.UnaryOp op a pos) (m1 f ma) := pd_un ho (by rw [hK]; exact rd1 _ _) ha
theorem pd_cmpD {op : CmpOp} (ho : OpD X (compareOp op) f) (hK : C.K = X.K) (ha : PD X C Wx a ma) (hb : PD X C Wx b mb) (hm : behindInMarks op b = false := by first | exact nomark _ | rfl) : PD X C Wx (.Compare a [op] [b] pos) (m2 f ma mb) := pd_cmp ho (by rw [hK]; exact rd2 _ _) ha hb hm
theorem pb_cmpD {op : CmpOp} (ho : OpD X (compareOp op) f) (hK : C.K = X.K) (ha : PD X C Wx a ma) (hb : PD X C Wx b mb) (hm : behindInMarks op b = false := by first | exact nomark _ | rfl) : PB X C Wx (.Compare a [op] [b] pos) (mtest (m2 f ma mb)) := pb_cmp ho (by rw [hK]; exact rd2 _ _) ha hb hm
theorem pd_chainD {op op' : CmpOp} (ho : OpD X (compareOp op) f) (ho' : OpD X (compareOp op') g) (hK : C.K = X.K) (ha : PD X C Wx a ma) (hb : PD X C Wx b mb) (hc : PD X C Wx c mc) (hm : lastMarks [op, op'] [b, c] = false := by with_unfolding_all rfl) :
    PD X C Wx (.Compare a [op, op'] [b, c] pos) (mchain f g ma mb mc) := pd_chain ho (by rw [hK]; exact rd2 _ _) ho' (by rw [hK]; exact rd2 _ _) ha hb hc hm
theorem pd_ixD (hK : C.K = X.K) (ha : PD X C Wx a ma) (hb : PD X C Wx b mb) (hs : PlainIx b := by exact fun _ _ => rfl) : PD X C Wx (.Subscript a b pos) (m2 ixD ma mb) := pd_ix ixD_seq (by rw [hK]; exact rd2 _ _) ha hb hs
theorem pd_cmpOD {op : CmpOp} {x : Str} (i : Nat) (hn : OwnN X i x) (ho : OpD X (compareOp op) f) (hK : C.K = X.K) (he : PD X C Wx e m) (hm : behindInMarks op e = false := by first | exact nomark _ | rfl) : PD X C Wx (.Compare (.Name x p) [op] [e] pos) (mcmpO f i m) := pd_cmpO i hn ho (by rw [hK]; exact rd2 _ _) he hm
theorem pd_inOD {op : CmpOp} {x : Str} (i : Nat) (hn : OwnN X i x) (ho : OpD X (compareOp op) f) (hK : C.K = X.K) (he : PD X C Wx e m) (hm : behindInMarks op (.Name x p) = false := by first | exact nomark _ | rfl) : PD X C Wx (.Compare e [op] [.Name x p] pos) (minO f m i) := pd_inO i hn ho (by rw [hK]; exact rd2 _ _) he hm
theorem pd_bltD {id : String} {x : Str} {f : List PyData → Option PyData} (hc : CallD X (.builtin id) f) (hK : C.K = X.K) (hm : X.mg x = none) (hv : bootBuiltins x = some (.builtin id)) (ha : PL X C Wx (e :: es) ms) (hg : Gl X x := by rfl) (hn : x ≠ "__name__" := by decide) (hdb : (x == ("__debug__" : Str)) = false := by decide)
    (he : starEach (e :: es) X.env = (false, eval e X.env) :: starEach es X.env := by rfl) (hpl : (backTo pos (starEach es X.env)).any (·.1) = false := by rfl) : PD X C Wx (.Call (.Name x p) (e :: es) [] pos) (mL f ms) := pd_callB hc (by rw [hK]; exact rdl _ _) hm hv ha hg hn hdb he hpl
theorem pd_tyD {T : String} {x : Str} {f : List PyData → Option PyData} (hc : CallD X (.type T) f) (hK : C.K = X.K) (hm : X.mg x = none) (hv : bootBuiltins x = some (.type T)) (ha : PL X C Wx (e :: es) ms) (hg : Gl X x := by rfl) (hn : x ≠ "__name__" := by decide) (hdb : (x == ("__debug__" : Str)) = false := by decide)
    (he : starEach (e :: es) X.env = (false, eval e X.env) :: starEach es X.env := by rfl) (hpl : (backTo pos (starEach es X.env)).any (·.1) = false := by rfl) : PD X C Wx (.Call (.Name x p) (e :: es) [] pos) (mL f ms) := pd_callTy hc (by rw [hK]; exact rdl _ _) hm hv ha hg hn hdb he hpl

/-! ### slices -/
def toI : PyData → Option Int
  | .int i => some i
  | _ => none
def mnoP : M (Option Int) := mpure none
def mprt (m : M PyData) : M (Option Int) := mbind m fun d => mlift ((toI d).map some)
def tO' (C : Lx) (Wx : WX) (m : M (Option Int)) : TO := fun σ H Q => ∃ δ w F, C.ok F H σ δ w ∧ tAt C Wx m σ δ w F H fun o _ _ _ H' => Q o H'
abbrev PPt (X : Cx) (C : Lx) (Wx : WX) (e : Option Expr) (m : M (Option Int)) : Prop := L2.PO X e (tO' C Wx m)
theorem po_weak {X : Cx} {e : Option Expr} {t t' : TO} (h : L2.PO X e t) (i : ∀ σ H Q, t' σ H Q → t σ H Q) : L2.PO X e t' := ⟨fun pins s σ H Q I q => h.run pins s σ H Q I (i σ H Q q)⟩
theorem pt_no : PPt X C Wx none mnoP := po_weak L2.po_none fun σ H Q q => by
  obtain ⟨δ, w, F, S, h⟩ := q
  exact tAt_pure h w F H S S.here
theorem pt_e (he : PD X C Wx e m) : PPt X C Wx (some e) (mprt m) := po_weak (L2.po_some he) fun σ H Q q => by
  obtain ⟨δ, w, F, S, h⟩ := q
  refine tE_then S h fun d δ1 w1 F1 H1 v S1 g1 hv h1 => ?_
  obtain ⟨z, ez, q2⟩ := tAt_lift h1
  cases d with
  | int i =>
    cases hv
    cases ez
    exact ⟨i, rfl, q2 w1 F1 H1 S1 S1.here⟩
  | _ => cases ez
def msl (m : M PyData) (lo hi : M (Option Int)) : M PyData := mbind m fun d => mbind lo fun l => mbind hi fun h => mlift (slD d l h)
theorem pd_sl {lo hi : Option Expr} {ml mh : M (Option Int)} (hK : C.K = X.K) (he : PD X C Wx e m) (hl : PPt X C Wx lo ml) (hh : PPt X C Wx hi mh) : PD X C Wx (.Subscript e (.Slice lo hi none p2) pos) (msl m ml mh) := by
  refine pe_weak (pe_slice slD_seq he hl hh) fun σ H Q q => tE_use q fun δ w F S h => ?_
  refine tE_then S h fun d δ1 w1 F1 H1 v S1 g1 hv h1 => ?_
  refine ⟨δ1, w1, F1, S1, tAt_mono (tAt_bind h1) fun l δ2 w2 F2 H2 S2 g2 h2 => ?_⟩
  refine ⟨δ2, w2, F2, S2, tAt_mono (tAt_bind h2) fun u δ3 w3 F3 H3 S3 g3 h3 => ?_⟩
  refine tAt_fin S3 h3 fun z e k => ⟨F3, d, z, S3.sub, by rw [← hK]; exact dp_ext (g2.ff.trans g3.ff) hv, e, ?_⟩
  rw [← hK]
  exact k
end
end RH

/-! The data layer, part 12: comprehensions of two clauses. -/
namespace RH
open PySem PySem.Spec L2
section
variable {X : Cx} {C : Lx} {Wx : WX} {tg iter elt tg1 iter1 : Expr} {ifs ifs1 : List Expr} {mi mi1 : M (List PyData)} {mt mt1 : M Bool} {me : M PyData} {t t1 : Tg} {pos : Pos} {scope : Scope}
/-- as lc_turns, from a list that is on its way -/
theorem lc_turnsG {σ : St} {vs : List Nat} {ds ys acc0 : List PyData} {va0 : List V} {δ1 δe : List Slot} {w1 w0 : Wn} {F1 H1 F0 H0 : Hp} {J : It} {D : Addr} {Qd : Hp → Prop} (hJ : ItD C.K F1 J ds) (hD : H0 D = none) (g0 : Step w0.has F0 H0 F1 H1 w1.has) (S1 : C.ok F1 H1 σ δ1 w1)
    (hv0 : H1 D = some (.lst va0)) (nF0 : F1 D = none) (nw0 : ¬ w1.has D) (ha0 : DpAll C.K F1 va0 acc0) (hz : acc0.length + ds.length ≤ 1000000) (hm : mcloop vs t mt me ds δ1 = some (ys, δe)) (ht : ∀ j ∈ t.slots, j ∈ vs)
    (hd : ∀ w' F' H' vs', C.ok F' H' σ (restore δ1 δe vs) w' → Step w0.has F0 H0 F' H' w'.has → Grw F1 F' → H' D = some (.lst vs') → F' D = none → ¬ w'.has D → DpAll C.K F' vs' (acc0 ++ ys) → Qd H') :
    ∃ W : Nat → Nat → Hp → Prop, (∃ m, W 0 m H1) ∧ ∀ i m H, W i m H →
      (J.stop i H ∧ Qd H) ∨ (J.go i H ∧ ∃ Nx : Hp → Prop, (∀ H', Nx H' → ∃ m', m' < m ∧ W (i + 1) m' H') ∧ ∀ x H', J.yld i H x H' → tG C t x (L2.wipe σ vs) H' fun σ2 H2 => L2.wipe σ2 vs = L2.wipe σ vs ∧ tT C W0 mt σ2 H2 fun b H3 =>
        if b = true then tE C W0 me σ2 H3 fun y H4 => ∃ acc, H4 D = some (.lst acc) ∧ acc.length < sizeLine ∧ Nx (upd H4 D (.lst (acc ++ [y]))) else Nx H3) := by
  refine ⟨fun i m H => m = ds.length - i ∧ i ≤ ds.length ∧ ∃ acc rest δ2 w2 F2 va, C.ok F2 H (L2.wipe σ vs) (wipeD δ2 vs) w2 ∧ Step w0.has F0 H0 F2 H w2.has ∧ Grw F1 F2 ∧ H D = some (.lst va) ∧ F2 D = none ∧ ¬ w2.has D ∧ DpAll C.K F2 va acc ∧ acc.length ≤ acc0.length + i ∧
    mcloop vs t mt me (ds.drop i) δ2 = some (rest, δe) ∧ acc ++ rest = acc0 ++ ys, ⟨ds.length, by simp, Nat.zero_le _, acc0, ys, δ1, w1.offs vs, F1, va0, S1.wipe vs, g0.trans (Step.sub fun _ h => Wn.offs_has h), Grw.refl _, hv0, nF0, fun z => nw0 (Wn.offs_has z), ha0, Nat.le_refl _, hm, rfl⟩, ?_⟩
  rintro i m H ⟨rfl, hi, acc, rest, δ2, w2, F2, va, S2, g2, gr2, hv, nF, nw, ha, hl, hm2, e2⟩
  by_cases hlt : i < ds.length
  · refine .inr ⟨hJ.go i F2 H gr2 S2.sub hlt, fun H' => ∃ acc rest δ2 w2 F2 va, C.ok F2 H' (L2.wipe σ vs) (wipeD δ2 vs) w2 ∧ Step w0.has F0 H0 F2 H' w2.has ∧ Grw F1 F2 ∧ H' D = some (.lst va) ∧ F2 D = none ∧ ¬ w2.has D ∧ DpAll C.K F2 va acc ∧ acc.length ≤ acc0.length + (i + 1) ∧
      mcloop vs t mt me (ds.drop (i + 1)) δ2 = some (rest, δe) ∧ acc ++ rest = acc0 ++ ys, fun H' h' => ⟨ds.length - (i + 1), by omega, rfl, hlt, h'⟩, ?_⟩
    intro x H3 hy
    obtain ⟨F3, d, al, hd', hx⟩ := hJ.yld i F2 H x H3 gr2 S2.sub hlt hy
    have ed : ds.drop i = d :: ds.drop (i + 1) := by
      rw [List.drop_eq_getElem_cons hlt]
      rw [List.getElem?_eq_getElem hlt] at hd'
      rw [Option.some.inj hd']
    rw [ed] at hm2
    simp only [mcloop] at hm2
    cases eb : bindT t d (wipeD δ2 vs) with
    | none => rw [eb] at hm2; cases hm2
    | some δb =>
      rw [eb] at hm2
      dsimp only at hm2
      have hv3 : H3 D = some (.lst va) := al.hh D _ hv
      have nF3 : F3 D = none := al.prot D (by rw [hv]; simp) nF
      refine ⟨_, w2, F3, d, δb, S2.alc al, hx, eb, fun σ' w' S' gs wz => ⟨?_, ?_⟩⟩
      · exact (wz vs ht).trans (wipe_twice σ vs)
      · have gA : Step w0.has F0 H0 F3 H3 w'.has := (g2.trans (al.step w2.has w2.has fun _ h => h)).trans (Step.sub gs)
        have nw' : ¬ w'.has D := fun z => nw (gs D z)
        have ew : L2.wipe σ' vs = L2.wipe σ vs := (wz vs ht).trans (wipe_twice σ vs)
        refine ⟨δb, w', F3, S', ?_⟩
        simp only [tAt]
        cases em : mt δb with
        | none => rw [em] at hm2; cases hm2
        | some r =>
          rw [em] at hm2
          cases r with
          | ex c δ' => cases hm2
          | ok k δ4 =>
            intro w4 F4 H4 S4 g4
            have k4 : H4 D = some (.lst va) := g4.keep D _ nw' hv3 (fun ps z => by cases z)
            have n4 : F4 D = none := g4.prot D (by rw [hv3]; simp) nF3 nw'
            have nw4 : ¬ w4.has D := fun z => (g4.ownd D z).elim nw' fun q => by rw [hv3] at q; cases q
            cases k with
            | false =>
              rw [if_neg Bool.false_ne_true]
              refine ⟨acc, rest, δ4, w4.offs vs, F4, va, ?_, (gA.trans g4).trans (Step.sub fun _ h => Wn.offs_has h), (gr2.trans al.ff).trans g4.ff, k4, n4, fun z => nw4 (Wn.offs_has z), dps_ext (al.ff.trans g4.ff) ha, by omega, hm2, e2⟩
              rw [← ew]
              exact S4.wipe vs
            | true =>
              rw [if_pos rfl]
              refine ⟨δ4, w4, F4, S4, ?_⟩
              simp only [tAt]
              dsimp only at hm2
              cases em2 : me δ4 with
              | none => rw [em2] at hm2; cases hm2
              | some r2 =>
                rw [em2] at hm2
                cases r2 with
                | ex c δ' => cases hm2
                | ok y δ5 =>
                  dsimp only at hm2
                  intro w5 F5 H5 S5 g5 v hvy
                  have k5 : H5 D = some (.lst va) := g5.keep D _ nw4 k4 (fun ps z => by cases z)
                  have n5 : F5 D = none := g5.prot D (by rw [k4]; simp) n4 nw4
                  have nw5 : ¬ w5.has D := fun z => (g5.ownd D z).elim nw4 fun q => by rw [k4] at q; cases q
                  have ha5 := dps_ext ((al.ff.trans g4.ff).trans g5.ff) ha
                  refine ⟨va, k5, small_lt (by rw [dps_len ha]; omega), ?_⟩
                  cases er : mcloop vs t mt me (ds.drop (i + 1)) δ5 with
                  | none => rw [er] at hm2; cases hm2
                  | some r3 =>
                    obtain ⟨ys3, δ6⟩ := r3
                    rw [er] at hm2
                    cases hm2
                    refine ⟨acc ++ [y], ys3, δ5, w5.offs vs, F5, va ++ [v], ?_, ((((gA.trans g4).trans g5).updD hD).trans (Step.sub fun _ h => Wn.offs_has h)), ((gr2.trans al.ff).trans g4.ff).trans g5.ff, upd_same, n5, fun z => nw5 (Wn.offs_has z), dps_app ha5 (.cons hvy .nil), by rw [List.length_append, List.length_singleton]; omega, er, by rw [List.append_assoc]; exact e2⟩
                    rw [← ew]
                    exact (S5.wipe vs).updP k5 n5 fun z => nw5 (Wn.offs_has z)
  · have e : i = ds.length := by omega
    subst e
    rw [List.drop_length] at hm2
    simp only [mcloop] at hm2
    cases hm2
    rw [List.append_nil] at e2
    rw [e2] at ha
    exact .inl ⟨hJ.stop F2 H gr2 S2.sub, hd w2 F2 H va (S1.unwipe gr2 S2) g2 gr2 hv nF nw ha⟩
theorem mcloop_len {vs : List Nat} : ∀ {ds ys : List PyData} {δ δe : List Slot}, mcloop vs t mt me ds δ = some (ys, δe) → ys.length ≤ ds.length
  | [], ys, δ, δe, h => by
    simp only [mcloop] at h
    cases h
    exact Nat.le_refl _
  | d :: ds, ys, δ, δe, h => by
    simp only [mcloop] at h
    split at h
    · cases h
    · split at h
      · split at h
        · split at h
          · rename_i e
            cases h
            have := mcloop_len e
            simp only [List.length_cons]
            omega
          · cases h
        · cases h
      · have := mcloop_len h
        simp only [List.length_cons]
        omega
      · cases h

/-! ### for .. for .. -/
def mcloop2 (vs : List Nat) (t : Tg) (mt : M Bool) (mi1 : M (List PyData)) (vs1 : List Nat) (t1 : Tg) (mt1 : M Bool) (me : M PyData) : List PyData → List Slot → Option (List PyData × List Slot)
  | [], δ => some ([], δ)
  | d :: ds, δ => match bindT t d (wipeD δ vs) with
    | none => none
    | some δ1 => match mt δ1 with
      | some (.ok true δ2) => (match mi1 δ2 with
        | some (.ok ds1 δ3) => if ds1.length ≤ 1000 then (match mcloop vs1 t1 mt1 me ds1 δ3 with
          | some (ys, δe) => (match mcloop2 vs t mt mi1 vs1 t1 mt1 me ds (restore δ3 δe vs1) with
            | some (zs, δ5) => some (ys ++ zs, δ5)
            | none => none)
          | none => none) else none
        | _ => none)
      | some (.ok false δ2) => mcloop2 vs t mt mi1 vs1 t1 mt1 me ds δ2
      | _ => none
def mcompL2 (vs : List Nat) (t : Tg) (mt : M Bool) (mi1 : M (List PyData)) (vs1 : List Nat) (t1 : Tg) (mt1 : M Bool) (me : M PyData) (ds : List PyData) : M (List PyData) := fun δ => if ds.length ≤ 1000 then (match mcloop2 vs t mt mi1 vs1 t1 mt1 me ds δ with
  | some (ys, δe) => some (.ok ys (restore δ δe vs))
  | none => none) else none
def mcomp2 (mi : M (List PyData)) (vs : List Nat) (t : Tg) (mt : M Bool) (mi1 : M (List PyData)) (vs1 : List Nat) (t1 : Tg) (mt1 : M Bool) (me : M PyData) : M (List PyData) := mbind mi (mcompL2 vs t mt mi1 vs1 t1 mt1 me)
theorem lc2_turns {σ : St} {vs vs1 : List Nat} {ds ys : List PyData} {δ1 δe : List Slot} {w1 : Wn} {F1 H1 : Hp} {J : It} {D : Addr} {Qd : Hp → Prop} (hJ : ItD C.K F1 J ds) (hD : H1 D = none) (S1 : C.ok F1 H1 σ δ1 w1) (hz : ds.length ≤ 1000)
    (hm : mcloop2 vs t mt mi1 vs1 t1 mt1 me ds δ1 = some (ys, δe)) (ht : ∀ j ∈ t.slots, j ∈ vs) (ht1 : ∀ j ∈ t1.slots, j ∈ vs1)
    (hd : ∀ w' F' H' vs', C.ok F' H' σ (restore δ1 δe vs) w' → Step w1.has F1 H1 F' H' w'.has → H' D = some (.lst vs') → F' D = none → ¬ w'.has D → DpAll C.K F' vs' ys → Qd H') :
    ∃ W : Nat → Nat → Hp → Prop, (∃ m, W 0 m (upd H1 D (.lst []))) ∧ ∀ i m H, W i m H →
      (J.stop i H ∧ Qd H) ∨ (J.go i H ∧ ∃ Nx : Hp → Prop, (∀ H', Nx H' → ∃ m', m' < m ∧ W (i + 1) m' H') ∧ ∀ x H', J.yld i H x H' → tG C t x (L2.wipe σ vs) H' fun σ2 H2 => L2.wipe σ2 vs = L2.wipe σ vs ∧ tT C W0 mt σ2 H2 fun b H3 =>
        if b = true then tI C W0 mi1 σ2 H3 fun J1 H4 => ∃ W1 : Nat → Nat → Hp → Prop, (∃ m, W1 0 m H4) ∧ ∀ j k H, W1 j k H →
          (J1.stop j H ∧ Nx H) ∨ (J1.go j H ∧ ∃ Nx1 : Hp → Prop, (∀ H', Nx1 H' → ∃ k', k' < k ∧ W1 (j + 1) k' H') ∧ ∀ x H', J1.yld j H x H' → tG C t1 x (L2.wipe σ2 vs1) H' fun σ3 H5 => L2.wipe σ3 vs1 = L2.wipe σ2 vs1 ∧ tT C W0 mt1 σ3 H5 fun b H6 =>
            if b = true then tE C W0 me σ3 H6 fun y H7 => ∃ acc, H7 D = some (.lst acc) ∧ acc.length < sizeLine ∧ Nx1 (upd H7 D (.lst (acc ++ [y]))) else Nx1 H6)
        else Nx H3) := by
  refine ⟨fun i m H => m = ds.length - i ∧ i ≤ ds.length ∧ ∃ acc rest δ2 w2 F2 va, C.ok F2 H (L2.wipe σ vs) (wipeD δ2 vs) w2 ∧ Step w1.has F1 H1 F2 H w2.has ∧ H D = some (.lst va) ∧ F2 D = none ∧ ¬ w2.has D ∧ DpAll C.K F2 va acc ∧ acc.length ≤ 1000 * i ∧
    mcloop2 vs t mt mi1 vs1 t1 mt1 me (ds.drop i) δ2 = some (rest, δe) ∧ acc ++ rest = ys, ⟨ds.length, by simp, Nat.zero_le _, [], ys, δ1, w1.offs vs, F1, [], ?_, ?_, upd_same, S1.sub.none hD, fun z => S1.there (Wn.offs_has z) hD, .nil, Nat.zero_le _, hm, rfl⟩, ?_⟩
  · exact (S1.wipe vs).alc (Alc.grwL S1.sub hD)
  · exact (Step.refl fun _ h => Wn.offs_has h).updD hD
  rintro i m H ⟨rfl, hi, acc, rest, δ2, w2, F2, va, S2, g2, hv, nF, nw, ha, hl, hm2, e2⟩
  by_cases hlt : i < ds.length
  · refine .inr ⟨hJ.go i F2 H g2.ff S2.sub hlt, fun H' => ∃ acc rest δ2 w2 F2 va, C.ok F2 H' (L2.wipe σ vs) (wipeD δ2 vs) w2 ∧ Step w1.has F1 H1 F2 H' w2.has ∧ H' D = some (.lst va) ∧ F2 D = none ∧ ¬ w2.has D ∧ DpAll C.K F2 va acc ∧ acc.length ≤ 1000 * (i + 1) ∧
      mcloop2 vs t mt mi1 vs1 t1 mt1 me (ds.drop (i + 1)) δ2 = some (rest, δe) ∧ acc ++ rest = ys, fun H' h' => ⟨ds.length - (i + 1), by omega, rfl, hlt, h'⟩, ?_⟩
    intro x H3 hy
    obtain ⟨F3, d, al, hd', hx⟩ := hJ.yld i F2 H x H3 g2.ff S2.sub hlt hy
    have ed : ds.drop i = d :: ds.drop (i + 1) := by
      rw [List.drop_eq_getElem_cons hlt]
      rw [List.getElem?_eq_getElem hlt] at hd'
      rw [Option.some.inj hd']
    rw [ed] at hm2
    simp only [mcloop2] at hm2
    cases eb : bindT t d (wipeD δ2 vs) with
    | none => rw [eb] at hm2; cases hm2
    | some δb =>
      rw [eb] at hm2
      dsimp only at hm2
      have hv3 : H3 D = some (.lst va) := al.hh D _ hv
      have nF3 : F3 D = none := al.prot D (by rw [hv]; simp) nF
      refine ⟨_, w2, F3, d, δb, S2.alc al, hx, eb, fun σ' w' S' gs wz => ⟨?_, ?_⟩⟩
      · exact (wz vs ht).trans (wipe_twice σ vs)
      · have gA : Step w1.has F1 H1 F3 H3 w'.has := (g2.trans (al.step w2.has w2.has fun _ h => h)).trans (Step.sub gs)
        have nw' : ¬ w'.has D := fun z => nw (gs D z)
        have ew : L2.wipe σ' vs = L2.wipe σ vs := (wz vs ht).trans (wipe_twice σ vs)
        refine ⟨δb, w', F3, S', ?_⟩
        simp only [tAt]
        cases em : mt δb with
        | none => rw [em] at hm2; cases hm2
        | some r =>
          rw [em] at hm2
          cases r with
          | ex c δ' => cases hm2
          | ok k δ4 =>
            intro w4 F4 H4 S4 g4
            have k4 : H4 D = some (.lst va) := g4.keep D _ nw' hv3 (fun ps z => by cases z)
            have n4 : F4 D = none := g4.prot D (by rw [hv3]; simp) nF3 nw'
            have nw4 : ¬ w4.has D := fun z => (g4.ownd D z).elim nw' fun q => by rw [hv3] at q; cases q
            cases k with
            | false =>
              rw [if_neg Bool.false_ne_true]
              refine ⟨acc, rest, δ4, w4.offs vs, F4, va, ?_, (gA.trans g4).trans (Step.sub fun _ h => Wn.offs_has h), k4, n4, fun z => nw4 (Wn.offs_has z), dps_ext (al.ff.trans g4.ff) ha, by omega, hm2, e2⟩
              rw [← ew]
              exact S4.wipe vs
            | true =>
              rw [if_pos rfl]
              refine ⟨δ4, w4, F4, S4, ?_⟩
              simp only [tAt]
              dsimp only at hm2
              cases em2 : mi1 δ4 with
              | none => rw [em2] at hm2; cases hm2
              | some r2 =>
                rw [em2] at hm2
                cases r2 with
                | ex c δ' => cases hm2
                | ok ds1 δ5 =>
                  dsimp only at hm2
                  split at hm2
                  · rename_i hz1
                    cases em3 : mcloop vs1 t1 mt1 me ds1 δ5 with
                    | none => rw [em3] at hm2; cases hm2
                    | some r3 =>
                      obtain ⟨ys1, δe1⟩ := r3
                      rw [em3] at hm2
                      dsimp only at hm2
                      cases er : mcloop2 vs t mt mi1 vs1 t1 mt1 me (ds.drop (i + 1)) (restore δ5 δe1 vs1) with
                      | none => rw [er] at hm2; cases hm2
                      | some r4 =>
                        obtain ⟨zs, δ6⟩ := r4
                        rw [er] at hm2
                        cases hm2
                        intro w5 F5 H5 S5 g5 J1 hJ1
                        have k5 : H5 D = some (.lst va) := g5.keep D _ nw4 k4 (fun ps z => by cases z)
                        have n5 : F5 D = none := g5.prot D (by rw [k4]; simp) n4 nw4
                        have nw5 : ¬ w5.has D := fun z => (g5.ownd D z).elim nw4 fun q => by rw [k4] at q; cases q
                        have ha5 := dps_ext ((al.ff.trans g4.ff).trans g5.ff) ha
                        have hln := mcloop_len em3
                        refine lc_turnsG hJ1 hD ((gA.trans g4).trans g5) S5 k5 n5 nw5 ha5 (by omega) em3 ht1 fun w' F' H' vs' S' g' gr' hp nF' nw6 hv' => ?_
                        refine ⟨acc ++ ys1, zs, restore δ5 δe1 vs1, w'.offs vs, F', vs', ?_, g'.trans (Step.sub fun _ h => Wn.offs_has h), hp, nF', fun z => nw6 (Wn.offs_has z), hv', by rw [List.length_append]; omega, er, by rw [List.append_assoc]; exact e2⟩
                        rw [← ew]
                        exact S'.wipe vs
                  · cases hm2
  · have e : i = ds.length := by omega
    subst e
    rw [List.drop_length] at hm2
    simp only [mcloop2] at hm2
    cases hm2
    rw [List.append_nil] at e2
    subst e2
    exact .inl ⟨hJ.stop F2 H g2.ff S2.sub, hd w2 F2 H va (S1.unwipe g2.ff S2) g2 hv nF nw ha⟩
theorem lc2_tO {own : List (Str × Nat)} {vs vs1 : List Nat} {σ : St} {H : Hp} {Q : VK} (hvs : own.map (·.2) = vs) (ht : ∀ j ∈ t.slots, j ∈ vs) (ht1 : ∀ j ∈ t1.slots, j ∈ vs1) (h : tO C Wx (mcomp2 mi vs t mt mi1 vs1 t1 mt1 me) σ H Q) : tLc2 (tI C Wx mi) (tG C t) (tT C W0 mt) (tI C W0 mi1) (tG C t1) (tT C W0 mt1) (tE C W0 me) (own.map (·.2)) vs1 σ H Q := by
  obtain ⟨δ, w, F, S, h⟩ := h
  rw [hvs]
  refine ⟨δ, w, F, S, tAt_mono (tAt_bind0 h) fun ds δ1 w1 F1 H1 S1 g1 h1 J hJ => fun D hD => ?_⟩
  simp only [tAt, mcompL2] at h1
  split at h1
  · exact False.elim h1
  · rename_i ys δr e1
    split at e1
    · rename_i hz
      split at e1
      · rename_i ys' δe hm
        cases e1
        have h0 : H D = none := by
          cases q : H D with
          | none => rfl
          | some o => exact absurd hD (g1.live D (by rw [q]; simp))
        exact lc2_turns hJ hD S1 hz hm ht ht1 fun w' F' H' vs' S' g' hp nF nw hv => h1 w' F' H' S' (g1.trans g') D vs' h0 hp nF nw hv
      · cases e1
    · cases e1
  · rename_i c δr e1
    split at e1
    · split at e1
      · cases e1
      · cases e1
    · cases e1
/-- [elt for tg in iter if .. for tg1 in iter1 if ..] -/
theorem po_lc2 (own : List (Str × Nat)) (vs vs1 : List Nat) (hc : X.calm = true) (hN : X.N.Nodup) (hi : PId X C Wx tg iter mi) (hvs : own.map (·.2) = vs) (hv1 : ∀ i ∈ vs1, i ∈ own.map (·.2)) (ht : ∀ j ∈ t.slots, j ∈ vs) (ht1 : ∀ j ∈ t1.slots, j ∈ vs1) (ok : BlkOk X.N X.env.scope scope own)
    (hg : ∀ (s : Shared) (H : Hp) (Cc : Addr) (cl : List (Str × Addr)) (fp : List Addr), PG (X.blk s H scope (compEnvC scope cl Cc X.env) fp) tg (tG C t)) (hts : ∀ (s : Shared) (H : Hp) (Cc : Addr) (cl : List (Str × Addr)) (fp : List Addr), PTs (X.blk s H scope (compEnvC scope cl Cc X.env) fp) ifs (tT C W0 mt))
    (hi1 : ∀ (s : Shared) (H : Hp) (Cc : Addr) (cl : List (Str × Addr)) (fp : List Addr), PId (X.blk s H scope (compEnvC scope cl Cc X.env) fp) C W0 tg1 iter1 mi1)
    (hg1 : ∀ (s : Shared) (H : Hp) (Cc : Addr) (cl : List (Str × Addr)) (fp : List Addr), PG (X.blk s H scope (compEnvC scope cl Cc X.env) fp) tg1 (tG C t1)) (hts1 : ∀ (s : Shared) (H : Hp) (Cc : Addr) (cl : List (Str × Addr)) (fp : List Addr), PTs (X.blk s H scope (compEnvC scope cl Cc X.env) fp) ifs1 (tT C W0 mt1))
    (he : ∀ (s : Shared) (H : Hp) (Cc : Addr) (cl : List (Str × Addr)) (fp : List Addr), PE (X.blk s H scope (compEnvC scope cl Cc X.env) fp) elt (tE C W0 me)) (hs : ∀ x, foldedSetIterable iter X.env x = pure x := by intro _; rfl) (hs1 : ∀ env x, foldedSetIterable iter1 env x = pure x := by intro _ _; rfl) :
    PO X C Wx (.ListComp elt [⟨tg, iter, ifs, 0⟩, ⟨tg1, iter1, ifs1, 0⟩] scope pos) (mcomp2 mi vs t mt mi1 vs1 t1 mt1 me) :=
  pe_weak (pe_lc2 hc hN hi ok hv1 hg hts hi1 hg1 hts1 he hs hs1) fun σ H Q q => lc2_tO hvs ht ht1 q
end
end RH

/-! The data layer, part 13: fresh lists, parallel assignments, x[i] = e, index. -/
namespace RH
open PySem PySem.Spec L2
section
variable {X : Cx} {C : Lx} {Wx : WX} {e : Expr} {es : List Expr} {m : M PyData} {ms : M (List PyData)} {pos p : Pos}
/-! ### fresh lists -/
def small (xs : List PyData) : Option (List PyData) := if xs.length ≤ 1000000 then some xs else none
theorem small_some {xs ys : List PyData} (h : small xs = some ys) : ys = xs ∧ xs.length ≤ 1000000 := by
  unfold small at h
  split at h
  · rename_i hl
    exact ⟨(Option.some.inj h).symm, hl⟩
  · cases h
def mLst (ms : M (List PyData)) : M (List PyData) := mbind ms fun xs => mlift (small xs)
theorem tO_new {σ : St} {δ : List Slot} {w : Wn} {F H H0 : Hp} {xs : List PyData} {vs : List V} {Q : VK} {p : Addr} (S : C.ok F H σ δ w) (live : ∀ b, H0 b ≠ none → H b ≠ none) (hp : H p = none) (hv : DpAll C.K F vs xs)
    (h : ∀ w' F' H', C.ok F' H' σ δ w' → Step w.has F H F' H' w'.has → ∀ p vs, H0 p = none → H' p = some (.lst vs) → F' p = none → ¬ w'.has p → DpAll C.K F' vs xs → Q (.ref p) H') : Q (.ref p) (upd H p (.lst vs)) := by
  have al : Alc F H F (upd H p (.lst vs)) := Alc.grwL S.sub hp
  refine h w F _ (S.alc al) (al.step _ _ fun _ h => h) p vs ?_ upd_same (S.sub.none hp) (fun z => S.there z hp) hv
  cases q : H0 p with
  | none => rfl
  | some o => exact absurd hp (live p (by rw [q]; simp))
theorem po_lst (h : PL X C Wx es ms) : PO X C Wx (.List es pos) (mLst ms) := by
  refine pe_weak (pe_lst h) fun σ H Q q => ?_
  obtain ⟨δ, w, F, S, h⟩ := q
  refine ⟨δ, w, F, S, ?_⟩
  have h' := tAt_bind0 h
  refine tAt_mono h' fun ds δ1 w1 F1 H1 S1 g1 h1 vs hvs => ?_
  obtain ⟨z, ez, q2⟩ := tAt_lift h1
  obtain ⟨rfl, hl⟩ := small_some ez
  refine ⟨by rw [dps_len hvs]; exact small_ok hl, fun p hp => ?_⟩
  exact tO_new S1 g1.live hp hvs fun w' F' H' S' g' p vs h1 h2 h3 h4 h5 => q2 w' F' H' S' (g1.trans g') p vs h1 h2 h3 h4 h5
def itemsL : PyData → Option (List PyData)
  | .list ds => some ds
  | .tuple ds => some ds
  | _ => none
def mlist (m : M PyData) : M (List PyData) := mbind m fun d => mlift (itemsL d)
theorem po_list (hK : C.K = X.K) (he : PD X C Wx e m) (hm : X.mg "list" = none) (hg : Gl X "list" := by rfl)
    (hs : starEach [e] X.env = (false, eval e X.env) :: starEach [] X.env := by rfl) (hpl : (backTo pos (starEach [] X.env)).any (·.1) = false := by rfl) : PO X C Wx (.Call (.Name "list" p) [e] [] pos) (mlist m) := by
  refine pe_weak (pe_callTy call_list_of hg hm PyProof.Rows.boot_list (pa_cons he pa_nil hs) (by decide) (by decide) hs hpl) fun σ H Q q => ?_
  obtain ⟨δ, w, F, S, h⟩ := q
  refine ⟨δ, w, F, S, ?_⟩
  refine tAt_mono (tAt_bind0 h) fun d δ1 w1 F1 H1 S1 g1 h1 v hv => ?_
  obtain ⟨z, ez, q2⟩ := tAt_lift h1
  cases hv with
  | lst hs hd =>
    cases ez
    rw [hK] at hs
    refine ⟨_, _, rfl, .inl (sql_ext S1.sub hs), fun p hp => ?_⟩
    exact tO_new S1 g1.live hp hd fun w' F' H' S' g' p vs h1 h2 h3 h4 h5 => q2 w' F' H' S' (g1.trans g') p vs h1 h2 h3 h4 h5
  | tup hs hd =>
    cases ez
    rw [hK] at hs
    refine ⟨_, _, rfl, .inr (sqt_ext S1.sub hs), fun p hp => ?_⟩
    exact tO_new S1 g1.live hp hd fun w' F' H' S' g' p vs h1 h2 h3 h4 h5 => q2 w' F' H' S' (g1.trans g') p vs h1 h2 h3 h4 h5
  | _ => cases ez

/-! ### values and new objects side by side -/
inductive Cv where
  | v (d : PyData)
  | o (xs : List PyData)
inductive CvsOk (K : PySem.W.Frag) (F H : Hp) (w : Wn) : List V → List Cv → List Addr → Prop
  | nil : CvsOk K F H w [] [] []
  | v {x : V} {d : PyData} {vs : List V} {cs : List Cv} {ps : List Addr} : Dp K F x d → CvsOk K F H w vs cs ps → CvsOk K F H w (x :: vs) (.v d :: cs) ps
  | o {p : Addr} {va : List V} {xs : List PyData} {vs : List V} {cs : List Cv} {ps : List Addr} : H p = some (.lst va) → F p = none → ¬ w.has p → DpAll K F va xs → p ∉ ps → CvsOk K F H w vs cs ps → CvsOk K F H w (.ref p :: vs) (.o xs :: cs) (p :: ps)
def tX (C : Lx) (Wx : WX) (m : M (List Cv)) : TA := fun σ H Q => ∃ δ w F, C.ok F H σ δ w ∧ tAt C Wx m σ δ w F H fun cs _ w' F' H' => ∀ vs ps, CvsOk C.K F' H' w' vs cs ps → (∀ p ∈ ps, H p = none) → Q vs H'
abbrev PX (X : Cx) (C : Lx) (Wx : WX) (es : List Expr) (m : M (List Cv)) : Prop := PA X es (tX C Wx m)
def cnil : M (List Cv) := mpure []
def cval (a : M PyData) (b : M (List Cv)) : M (List Cv) := mbind a fun x => mbind b fun xs => mpure (.v x :: xs)
def cown (a : M (List PyData)) (b : M (List Cv)) : M (List Cv) := mbind a fun x => mbind b fun xs => mpure (.o x :: xs)
variable {mc : M (List Cv)} {mo : M (List PyData)}
theorem px_nil : PX X C Wx [] cnil := by
  refine pa_weak pa_nil fun σ H Q q => ?_
  obtain ⟨δ, w, F, S, h⟩ := q
  exact tAt_pure h w F H S S.here [] [] .nil fun _ h => by cases h
theorem px_v (ha : PD X C Wx e m) (hr : PX X C Wx es mc) (hs : starEach (e :: es) X.env = (false, eval e X.env) :: starEach es X.env := by rfl) : PX X C Wx (e :: es) (cval m mc) := by
  refine pa_weak (pa_cons ha hr hs) fun σ H Q q => ?_
  obtain ⟨δ, w, F, S, h⟩ := q
  refine tE_then S h fun d δ1 w1 F1 H1 v S1 g1 hv h1 => ?_
  refine ⟨δ1, w1, F1, S1, tAt_mono (tAt_bind h1) fun cs δ2 w2 F2 H2 S2 g2 h2 vs ps hc hp => ?_⟩
  refine tAt_pure h2 w2 F2 H2 S2 S2.here (v :: vs) ps (.v (dp_ext g2.ff hv) hc) fun p h => ?_
  cases q : H p with
  | none => rfl
  | some o => exact absurd (hp p h) (g1.live p (by rw [q]; simp))
theorem px_o (ha : PO X C Wx e mo) (hr : PX X C Wx es mc) (hs : starEach (e :: es) X.env = (false, eval e X.env) :: starEach es X.env := by rfl) : PX X C Wx (e :: es) (cown mo mc) := by
  refine pa_weak (pa_cons ha hr hs) fun σ H Q q => ?_
  obtain ⟨δ, w, F, S, h⟩ := q
  refine ⟨δ, w, F, S, tAt_mono (tAt_bind h) fun xs δ1 w1 F1 H1 S1 g1 h1 p va h0 hp nF nw hv => ?_⟩
  refine ⟨δ1, w1, F1, S1, tAt_mono (tAt_bind h1) fun cs δ2 w2 F2 H2 S2 g2 h2 vs ps hc hps => ?_⟩
  refine tAt_pure h2 w2 F2 H2 S2 S2.here (.ref p :: vs) (p :: ps) (.o (g2.keep p _ nw hp fun ps z => by cases z) (g2.prot p (by rw [hp]; simp) nF nw) (fun z => (g2.ownd p z).elim nw fun q => by rw [hp] at q; cases q) (dps_ext g2.ff hv) (fun z => by rw [hps p z] at hp; cases hp) hc) fun q h => ?_
  rcases List.mem_cons.mp h with rfl | h
  · exact h0
  · cases e : H q with
    | none => rfl
    | some o => exact absurd (hps q h) (g1.live q (by rw [e]; simp))
def putC (i : Nat) : Cv → List Slot → List Slot
  | .v d, δ => δ.set i (.val d)
  | .o xs, δ => δ.set i (.own (.b (.lst xs)))
def putCs : List Nat → List Cv → List Slot → List Slot
  | i :: is, c :: cs, δ => putCs is cs (putC i c δ)
  | _, _, δ => δ
def putVs : List Nat → List V → St → St
  | i :: is, v :: vs, σ => putVs is vs (σ.set i (some v))
  | _, _, σ => σ
theorem CvsOk.put {K : PySem.W.Frag} {F H : Hp} {w : Wn} {vs : List V} {cs : List Cv} {ps : List Addr} (h : CvsOk K F H w vs cs ps) {w' : Wn} (hw : ∀ p, w'.has p → w.has p ∨ p ∉ ps) : CvsOk K F H w' vs cs ps := by
  induction h with
  | nil => exact .nil
  | v a _ ih => exact .v a (ih hw)
  | o h1 h2 h3 h4 h5 _ ih =>
    refine .o h1 h2 (fun z => ?_) h4 h5 (ih fun p hp => (hw p hp).imp id fun q z => q (List.mem_cons_of_mem _ z))
    rcases hw _ z with q | q
    · exact h3 q
    · exact q List.mem_cons_self
theorem puts {K : PySem.W.Frag} {Y : Lay} {vs0 : List V} {W : Addr → Prop} {F0 H0 F H : Hp} : ∀ {is : List Nat} {vs : List V} {cs : List Cv} {ps : List Addr} {σ : St} {δ : List Slot} {w : Wn}, SOk Y K vs0 F H σ δ w → Step W F0 H0 F H w.has → CvsOk K F H w vs cs ps → (∀ p ∈ ps, H0 p = none) → (∀ i ∈ is, vs0.length ≤ i ∧ i < δ.length) →
    ∃ w', SOk Y K vs0 F H (putVs is vs σ) (putCs is cs δ) w' ∧ Step W F0 H0 F H w'.has
  | [], _, _, _, _, _, w, S, g, _, _, _ => ⟨w, S, g⟩
  | i :: is, _, _, _, σ, δ, w, S, g, .nil, _, _ => ⟨w, S, g⟩
  | i :: is, _, _, _, σ, δ, w, S, g, .v a r, hp, hi => by
    obtain ⟨w', h1, h2⟩ := puts (is := is) (S.setV i a) (g.trans step_off) (r.put fun p hp => .inl (Wn.off_has hp)) hp fun j hj => by
      rw [List.length_set]
      exact hi j (List.mem_cons_of_mem _ hj)
    exact ⟨w', h1, h2⟩
  | i :: is, _, _, _, σ, δ, w, S, g, .o (p := p) (va := va) (xs := xs) h1 h2 h3 h4 h5 r, hp, hi => by
    obtain ⟨a1, a2⟩ := hi i List.mem_cons_self
    have S' := S.setO i a1 a2 (o := .b (.lst xs)) (.b ⟨_, h1, va, rfl, h4⟩) (fun a ha => by rw [List.mem_singleton.mp ha]; exact h2) (fun a ha => by rw [List.mem_singleton.mp ha]; exact h3)
    obtain ⟨w', q1, q2⟩ := puts (is := is) S' (g.put (i := i) (hp p List.mem_cons_self)) (r.put fun q hq => by
      rcases Wn.put_has hq with hq | hq
      · rw [List.mem_singleton.mp hq]
        exact .inr h5
      · exact .inl hq) (fun q hq => hp q (List.mem_cons_of_mem _ hq)) fun j hj => by
      rw [List.length_set]
      exact hi j (List.mem_cons_of_mem _ hj)
    exact ⟨w', q1, q2⟩
def spar (is : List Nat) (m : M (List Cv)) : MS := sbind m fun cs δ => if cs.length = is.length then some (.nx (putCs is cs δ)) else none
theorem cvs_len {K : PySem.W.Frag} {F H : Hp} {w : Wn} {vs : List V} {cs : List Cv} {ps : List Addr} (h : CvsOk K F H w vs cs ps) : vs.length = cs.length := by
  induction h with
  | nil => rfl
  | v _ _ ih => exact congrArg (· + 1) ih
  | o _ _ _ _ _ _ ih => exact congrArg (· + 1) ih
theorem pd_par2 {x y : Str} {a b : Expr} {px py pt : Pos} {kt k2 pt2} (i j : Nat) (hc : X.calm = true) (hN : X.N.Nodup) (ha : PX X C Wx [a, b] mc) (hw : swappedStores [.Tuple [.Name x px, .Name y py] kt pt] (.Tuple [a, b] k2 pt2) X.env = pure (some [x, y])) (hi0 : C.vs0.length ≤ i) (hj0 : C.vs0.length ≤ j)
    (hi : X.N[i]? = some x := by rfl) (hj : X.N[j]? = some y := by rfl) (hij : i ≠ j := by decide)
    (hx : X.env.scope.names.lookup x = some .local := by rfl) (hy : X.env.scope.names.lookup y = some .local := by rfl)
    (hs : swapsWithSole [.Tuple [.Name x px, .Name y py] kt pt] (.Tuple [a, b] k2 pt2) pos.line X.env = pure false := by rfl) :
    PSd X C Wx (.Assign [.Tuple [.Name x px, .Name y py] kt pt] (.Tuple [a, b] k2 pt2) pos) (spar [i, j] mc) := by
  have h0 := ps_par hc hN hi hj hij hx hy ha hw hs
  refine ⟨fun pins s σ H D I q => h0.run pins s σ H D I ?_⟩
  obtain ⟨δ, w, F, S, h⟩ := q
  refine ⟨δ, w, F, S, tAt_mono (tSt_bind0 h) fun cs δ1 w1 F1 H1 S1 g1 h1 vs ps hcs hps => ?_⟩
  simp only [tStAt] at h1
  have hl := cvs_len hcs
  split at h1
  · exact h1.elim
  · rename_i δ' e1
    split at e1
    · rename_i hlen
      cases e1
      have hn : δ1.length = X.N.length := by rw [S1.len, I.len]
      obtain ⟨w', S', g'⟩ := puts (is := [i, j]) S1 g1 hcs hps fun q hq => by
        have hq' : q = i ∨ q = j := by simpa using hq
        rcases hq' with rfl | rfl
        · exact ⟨hi0, by rw [hn]; exact (List.getElem?_eq_some_iff.mp hi).1⟩
        · exact ⟨hj0, by rw [hn]; exact (List.getElem?_eq_some_iff.mp hj).1⟩
      rw [hlen] at hl
      match vs, hl with
      | [v1, v2], _ => exact ⟨v1, v2, rfl, h1 _ w' F1 H1 S' g'⟩
    · cases e1
  · rename_i e1
    split at e1 <;> cases e1
  · rename_i e1
    split at e1 <;> cases e1
theorem pd_par3 {x y z : Str} {a b c : Expr} {px py pz pt : Pos} {kt k2 pt2} (i j l : Nat) (hc : X.calm = true) (hN : X.N.Nodup) (ha : PX X C Wx [a, b, c] mc) (hw : swappedStores [.Tuple [.Name x px, .Name y py, .Name z pz] kt pt] (.Tuple [a, b, c] k2 pt2) X.env = pure (some [x, y, z])) (hi0 : C.vs0.length ≤ i) (hj0 : C.vs0.length ≤ j) (hl0 : C.vs0.length ≤ l)
    (hi : X.N[i]? = some x := by rfl) (hj : X.N[j]? = some y := by rfl) (hl : X.N[l]? = some z := by rfl) (hij : i ≠ j := by decide) (hil : i ≠ l := by decide) (hjl : j ≠ l := by decide)
    (hx : X.env.scope.names.lookup x = some .local := by rfl) (hy : X.env.scope.names.lookup y = some .local := by rfl) (hz : X.env.scope.names.lookup z = some .local := by rfl)
    (hs : swapsWithSole [.Tuple [.Name x px, .Name y py, .Name z pz] kt pt] (.Tuple [a, b, c] k2 pt2) pos.line X.env = pure false := by rfl) :
    PSd X C Wx (.Assign [.Tuple [.Name x px, .Name y py, .Name z pz] kt pt] (.Tuple [a, b, c] k2 pt2) pos) (spar [i, j, l] mc) := by
  have h0 := ps_par3 hc hN hi hj hl hij hil hjl hx hy hz ha hw hs
  refine ⟨fun pins s σ H D I q => h0.run pins s σ H D I ?_⟩
  obtain ⟨δ, w, F, S, h⟩ := q
  refine ⟨δ, w, F, S, tAt_mono (tSt_bind0 h) fun cs δ1 w1 F1 H1 S1 g1 h1 vs ps hcs hps => ?_⟩
  simp only [tStAt] at h1
  have hll := cvs_len hcs
  split at h1
  · exact h1.elim
  · rename_i δ' e1
    split at e1
    · rename_i hlen
      cases e1
      have hn : δ1.length = X.N.length := by rw [S1.len, I.len]
      obtain ⟨w', S', g'⟩ := puts (is := [i, j, l]) S1 g1 hcs hps fun q hq => by
        have hq' : q = i ∨ q = j ∨ q = l := by simpa using hq
        rcases hq' with rfl | rfl | rfl
        · exact ⟨hi0, by rw [hn]; exact (List.getElem?_eq_some_iff.mp hi).1⟩
        · exact ⟨hj0, by rw [hn]; exact (List.getElem?_eq_some_iff.mp hj).1⟩
        · exact ⟨hl0, by rw [hn]; exact (List.getElem?_eq_some_iff.mp hl).1⟩
      rw [hlen] at hll
      match vs, hll with
      | [v1, v2, v3], _ => exact ⟨v1, v2, v3, rfl, h1 _ w' F1 H1 S' g'⟩
    · cases e1
  · rename_i e1
    split at e1 <;> cases e1
  · rename_i e1
    split at e1 <;> cases e1
end
end RH

/-! The data layer, part 14: x[i] = e, index; defs of the text. -/
namespace RH
open PySem PySem.Spec L2
section
variable {X : Cx} {C : Lx} {Wx : WX} {x : Str} {p pos p2 : Pos} {e a b v : Expr} {es : List Expr} {m mv mi : M PyData} {ms : M (List PyData)}
/-- x[e] = v, x an owned list -/
theorem pd_setI (i : Nat) (hn : OwnN X i x) (hv : PD X C Wx v mv) (he : PD X C Wx e mi) (ha : ∀ v, assign (.Subscript (.Name x p) e p2) X.env v = (do
      let ov ← holding [v] (eval (.Name x p) X.env)
      let iv ← holding [v, ov] (eval e X.env)
      standAt p2
      holding [v, ov, iv] (setItem ov iv v)
      release [v, ov, iv] []) := by intro _; rfl)
    (hs : swapsWithSole [.Subscript (.Name x p) e p2] v pos.line X.env = pure false := by rfl) (hw : swappedStores [.Subscript (.Name x p) e p2] v X.env = pure none := by rfl)
    (h1 : (assignEach [.Subscript (.Name x p) e p2] X.env).map (·.2) = [assign (.Subscript (.Name x p) e p2) X.env] := by rfl) : PSd X C Wx (.Assign [.Subscript (.Name x p) e p2] v pos) (ssetI i mi mv) := by
  refine ps_weak (ps_asg hv (pg_sub (pe_own hn) he set_list ha) hs hw h1) fun D σ H q => ?_
  obtain ⟨δ, w, F, S, h⟩ := q
  refine tSt_then S h fun d δ1 w1 F1 H1 v1 S1 g1 hv1 h1 => ?_
  have h2 := tSt_bind (σ := σ) h1
  obtain ⟨h0, h3⟩ := tAt_with h2
  obtain ⟨xs0, hx0⟩ := isOwnL_at h0
  obtain ⟨q0, vs0, e1, e2, e3, e4⟩ := S1.ownL (lookL_some hx0)
  refine ⟨_, e1, δ1, w1, F1, S1, tAt_mono h3 fun j δ2 w2 F2 H2 S2 g2 h4 jv hjv => ?_⟩
  obtain ⟨xs, hx, h5⟩ := h4
  obtain ⟨q1, vs1, f1, f2, f3, f4⟩ := S2.ownL (lookL_some hx)
  rw [e1] at f1
  cases f1
  cases j with
  | int k =>
    cases hjv
    simp only [tAt] at h5
    cases ek : ixN xs.length k with
    | none => rw [ek] at h5; exact h5.elim
    | some j =>
      rw [ek] at h5
      obtain ⟨S3, g3⟩ := S2.updL (lookL_some hx) e1 f2 f4 (dps_set j f3 (dp_ext g2.ff hv1))
      have h6 := h5 w2 F2 _ S3 (g2.trans g3)
      exact ⟨_, vs1, k, j, rfl, rfl, f2, by rw [dps_len f3]; exact ek, h6 σ w2 F2 _ S3 S3.here⟩
  | _ => exact h5.elim

/-! ### index -/
def idxD (d : PyData) : List PyData → Nat → Option Nat
  | [], _ => none
  | z :: zs, j => if PyData.eqv z d then some j else idxD d zs (j + 1)
theorem idxD_some {d : PyData} : ∀ {zs : List PyData} {n j : Nat}, idxD d zs n = some j → ∃ k z, j = n + k ∧ zs[k]? = some z ∧ PyData.eqv z d = true ∧ ∀ m z', m < k → zs[m]? = some z' → PyData.eqv z' d = false
  | [], _, _, h => by cases h
  | y :: ys, n, j, h => by
    unfold idxD at h
    split at h
    · rename_i hy
      cases h
      exact ⟨0, y, rfl, rfl, hy, fun m _ hm => absurd hm (Nat.not_lt_zero m)⟩
    · rename_i hy
      obtain ⟨k, z, rfl, h2, h3, h4⟩ := idxD_some h
      refine ⟨k + 1, z, by omega, h2, h3, fun m z' hm hz => ?_⟩
      cases m with
      | zero =>
        simp at hz
        subst hz
        exact Bool.eq_false_iff.mpr hy
      | succ m => exact h4 m z' (by omega) (by simpa using hz)
def indexD : PyData → List PyData → Option PyData
  | .list ds, [d] => if shp (.list ds) && shp d then (idxD d ds 0).map fun j => .int (j : Nat) else none
  | .tuple ds, [d] => if shp (.tuple ds) && shp d then (idxD d ds 0).map fun j => .int (j : Nat) else none
  | _, _ => none
/-- t.index(x) of a tuple -/
theorem mt_indexT (hu : X.A.units + 65 < cLine) : MtR X "tuple.index" (fun x xs H Q => ∃ (a : Addr) (vs : List V) (y : V) (d : PyData) (ds : List PyData) (j : Nat) (z : PyData), x = V.ref a ∧ xs = [y] ∧ SqT X.K H a vs ∧ DpAll X.K H vs ds ∧ Dp X.K H y d ∧
    SeqAt.shaped (.tuple ds) = true ∧ SeqAt.shaped d = true ∧ ds[j]? = some z ∧ PyData.eqv z d = true ∧ (∀ (m : Nat) (z' : PyData), m < j → ds[m]? = some z' → PyData.eqv z' d = false) ∧ Q (.int (j : Nat)) H) := by
  intro pins s σ H x xs v us Q I rx rxs h
  obtain ⟨a, vs, y, d, ds, j, z, rfl, rfl, hs, ha, hy, sl, sd, hz, hzj, hno, q⟩ := h
  cases rx
  cases rxs with
  | cons ry rt =>
    rename_i uy ut
    cases rt
    obtain ⟨bs, r1⟩ := Dp.reads I d y uy hy ry
    have hxs : PyData.canLayAll0 ds = true := SeqAt.canLay_of_shaped sl
    have hroom : X.A.units + 1 + min (PyData.depthAll ds) d.depth < cLine := room_tup sd hu
    obtain ⟨its, rv, ⟨⟨cls, dd, data, sls⟩, ho, hc, n, hdt⟩, hlen⟩ := I.tuple hs
    simp only at hc hdt
    subst hc hdt
    obtain ⟨as, h4⟩ := Dp.readsAll I ds _ its ha rv
    have hn : its.length = ds.length := SeqAt.ReadsAll.length ds its as h4
    have hmap : its.map (SeqAt.readOf s.heap) = ds := SeqAt.readsAll_map ds its as hxs h4
    obtain ⟨hjd, _⟩ := List.getElem?_eq_some_iff.mp hz
    have hjl : j < its.length := by omega
    have hj : j < its.toArray.size := by simpa using hjl
    have at_ : ∀ (m : Nat) (hm : m < its.toArray.size) (z' : PyData), ds[m]? = some z' → SeqAt.readOf s.heap its.toArray[m] = z' := by
      intro m hm z' hz'
      have hml : m < its.length := by simpa using hm
      rw [← hmap, List.getElem?_map, List.getElem?_eq_getElem hml] at hz'
      have e1 : SeqAt.readOf s.heap its[m] = z' := Option.some.inj (show some (SeqAt.readOf s.heap its[m]) = some z' from hz')
      simpa using e1
    refine call_meets PySem.F.slot_tuple_index ⟨_, ho, rfl⟩ PySem.F.entry_tuple_index (PySem.F.args_tuple_index_2 _ _)
      (TI.tuple_indexAt a its.toArray n dd sls uy (fun u => PyData.eqv (SeqAt.readOf s.heap u) d) j hj ?_ ?_) ⟨ho, SeqAt.items_eqAt (vs := its.toArray) (show ReadsAll s.heap its.toArray.toList ds as from h4) r1 hxs (SeqAt.canLay_of_shaped sd) hroom, ?_⟩
    · show PyData.eqv (SeqAt.readOf s.heap its.toArray[j]) d = true
      rw [at_ j hj z hz]
      exact hzj
    · intro m hm hmj
      have hmd : m < ds.length := by omega
      have hz' : ds[m]? = some ds[m] := List.getElem?_eq_getElem hmd
      show PyData.eqv (SeqAt.readOf s.heap its.toArray[m]) d = false
      rw [at_ m hm _ hz']
      exact hno m _ hmj hz'
    · exact ⟨.int (j : Nat), H, I.tok _, ⟨_, rfl⟩, q⟩
/-- the constants of the text: its tuples are without a dict -/
def KT (K : PySem.W.Frag) : Prop := ∀ a o, K.lookup a = some o → o.cls = .type "tuple" → o.dict = none
/-- what a method may be asked of, by its class -/
def tyW (K : PySem.W.Frag) (T : String) (x : V) (H : Hp) : Prop := tyV K T x H ∨ (T = "tuple" ∧ ∃ p ob xs, x = .ref p ∧ H p = some (.frz ob (.tup xs)) ∧ ob.dict = none)
theorem tyW_is {pins : List (Addr × Obj)} {σ : St} {H : Hp} {s : Shared} {T : String} {x : V} {v : Value} (I : Inv X pins σ H s) (r : RelV x v) (ty : tyW X.K T x H) : s.TypeIs v T ∧ ∀ a, v = .ref a → ∃ ob, s.heap.get? a = some ob ∧ ob.dict = none := by
  rcases ty with ty | ⟨rfl, p, ob, xs, rfl, hp, hd⟩
  · exact tyV_is I r ty
  · cases r
    obtain ⟨e, _, its, _, o, eo, hc, _⟩ := (show ObjOk X.prog X.w H s.heap p (.frz ob (.tup xs)) from I.hok p _ hp)
    rw [e] at eo
    cases eo
    exact ⟨⟨ob, e, hc⟩, fun a ha => by cases ha; exact ⟨ob, e, hd⟩⟩
def tyD : String → PyData → Bool
  | "list", .list _ => true
  | "tuple", .tuple _ => true
  | "str", .str _ => true
  | _, _ => false
theorem tyD_W {K : PySem.W.Frag} (hK : KT K) {F H : Hp} (ntb : ∀ b o, F b = some o → okO o) (g : Grw F H) {T : String} {x : V} {d : PyData} (hd : Dp K F x d) (h : tyD T d = true) : tyW K T x H := by
  unfold tyD at h
  split at h
  · cases hd with
    | lst hs _ => exact .inl (.inl ⟨rfl, _, sql_ext g hs⟩)
  · cases hd with
    | tup hs _ =>
      rcases hs with (hs | ⟨ob, hs⟩) | ⟨o, its, n, hk, hc, _⟩
      · exact absurd (ntb _ _ hs) id
      · exact .inr ⟨rfl, _, ob, _, rfl, g _ _ hs, ntb _ _ hs⟩
      · exact .inl (.inr (.inl ⟨rfl, o, hk, hc, hK _ _ hk hc⟩))
  · cases hd with
    | str z => exact .inl rfl
  · cases h
def mMT (T : String) (f : PyData → List PyData → Option PyData) (m : M PyData) (ms : M (List PyData)) : M PyData := mbind m fun d => mbind (mlift (if tyD T d then some () else none)) fun _ => mbind ms fun ds => mlift (f d ds)
def tBMW (K : PySem.W.Frag) (T : String) (r : V → List V → Hp → VK → Prop) (to : TE) (t : TA) : TE := fun σ H Q => to σ H fun x H1 => tyW K T x H1 ∧ t σ H1 fun xs H2 => r x xs H2 Q
variable {o : Expr} {name : Str} {apos cpos : Pos} {T id : String} {r : V → List V → Hp → VK → Prop} {to : TE} {t : TA}
theorem pe_bmW (pa : PlainAttrs T) (slot : PySem.Slot T name id) (hty : typeOf (.builtin id) = pure (.type "method_descriptor")) (hm : MtR X id r) (ho : PE X o to) (ha : PA X (e :: es) t)
    (hbase : attributeBase o name X.env (eval o X.env) = eval o X.env := by rfl)
    (hfew : ((backTo cpos (starEach (e :: es) X.env)).all (fun x => !x.1) && (backToKw cpos (keywordEach [] X.env)).all (fun x => x.1.isSome)
      && decide ((e :: es).length + ([] : List Keyword).length + (if ([] : List Keyword).isEmpty then 0 else 1) < 30)) = true := by rfl)
    (hline : (apos.endLine == cpos.line) = true := by rfl) (hs : starEach (e :: es) X.env = (false, eval e X.env) :: starEach es X.env := by rfl) (hplain : (backTo cpos (starEach es X.env)).any (·.1) = false := by rfl) :
    PE X (.Call (.Attribute o name apos) (e :: es) [] cpos) (tBMW X.K T r to t) := by
  refine ⟨fun pins s σ H Q I h => ?_⟩
  refine wpAny_Call_method_late hbase hfew hline rfl (thn (ho.run pins s σ H _ I h) fun v s1 ⟨x, H1, I1, r1, ty, q1⟩ => ?_)
  obtain ⟨h1, h2⟩ := tyW_is I1 r1 ty
  refine ⟨T, id, pa, slot, hty, h1, h2, ?_⟩
  have hA := ha.run cpos pins s1 σ H1 _ I1 q1
  rw [hs] at hA ⊢
  refine Calls.callWith_builtin (by show (false || (backTo cpos (starEach es X.env)).any (·.1)) = false; rw [hplain] <;> rfl) (Calls.evalArgs_plain ?_)
  exact thn hA fun us s2 ⟨vs, H2, I2, r2, q2⟩ => hm pins s2 σ H2 x vs v us Q I2 r1 r2 q2
/-- x.f(e, ..), x a value -/
theorem pd_meth {f : PyData → List PyData → Option PyData} (hKT : KT X.K) (hK : C.K = X.K) (pa : PlainAttrs T) (slot : PySem.Slot T name id) (hty : typeOf (.builtin id) = pure (.type "method_descriptor")) (hm : MtR X id r) (hr : RDM X.K r f) (ho : PD X C Wx o m) (ha : PL X C Wx (e :: es) ms)
    (hbase : attributeBase o name X.env (eval o X.env) = eval o X.env := by rfl)
    (hfew : ((backTo cpos (starEach (e :: es) X.env)).all (fun x => !x.1) && (backToKw cpos (keywordEach [] X.env)).all (fun x => x.1.isSome)
      && decide ((e :: es).length + ([] : List Keyword).length + (if ([] : List Keyword).isEmpty then 0 else 1) < 30)) = true := by rfl)
    (hline : (apos.endLine == cpos.line) = true := by rfl) (hs : starEach (e :: es) X.env = (false, eval e X.env) :: starEach es X.env := by rfl) (hplain : (backTo cpos (starEach es X.env)).any (·.1) = false := by rfl) :
    PD X C Wx (.Call (.Attribute o name apos) (e :: es) [] cpos) (mMT T f m ms) := by
  refine pe_weak (pe_bmW pa slot hty hm ho ha hbase hfew hline hs hplain) fun σ H Q q => tE_use q fun δ w F S h => ?_
  refine tE_then S h fun d δ1 w1 F1 H1 v S1 g1 hv h1 => ?_
  obtain ⟨z, ez, q2⟩ := tAt_lift (tAt_bind h1)
  have h2 := q2 w1 F1 H1 S1 S1.here
  have ht : tyD T d = true := by
    cases e : tyD T d with
    | true => rfl
    | false =>
      rw [e] at ez
      cases ez
  refine ⟨tyD_W hKT S1.ntb S1.sub (by rw [← hK]; exact hv) ht, ?_⟩
  refine tA_then S1 h2 fun ds δ2 w2 F2 H2 vs S2 g2 hvs h3 => ?_
  exact tAt_fin S2 h3 fun z e k => hr F2 H2 v vs d ds z Q S2.sub (by rw [← hK]; exact dp_ext g2.ff hv) (by rw [← hK]; exact hvs) e (by rw [← hK]; exact k)
theorem rd_indexL {K : PySem.W.Frag} : RDM K (rIndexD K) (fun d ds => match d with | .list _ => indexD d ds | _ => none) := by
  intro F H x xs d ds z Q g hd hds h q
  cases hd with
  | lst hs ha =>
    match ds, hds, h with
    | [e], .cons he .nil, h =>
      simp only [indexD] at h
      split at h
      · rename_i hsh
        rw [Bool.and_eq_true] at hsh
        obtain ⟨j, ej, rfl⟩ := Option.map_eq_some_iff.mp h
        obtain ⟨k, y, rfl, h2, h3, h4⟩ := idxD_some ej
        rw [Nat.zero_add] at q
        exact ⟨_, _, e, _, k, y, rfl, rfl, dp_ext g (.lst hs ha), dp_ext g he, hsh.1, hsh.2, h2, h3, h4, q _ F H (Alc.refl g) (.int _)⟩
      · cases h
    | [], _, h => cases h
    | _ :: _ :: _, _, h => cases h
  | _ => cases h
theorem rd_indexT {K : PySem.W.Frag} : RDM K (fun x xs H Q => ∃ (a : Addr) (vs : List V) (y : V) (d : PyData) (ds : List PyData) (j : Nat) (z : PyData), x = V.ref a ∧ xs = [y] ∧ SqT K H a vs ∧ DpAll K H vs ds ∧ Dp K H y d ∧
    SeqAt.shaped (.tuple ds) = true ∧ SeqAt.shaped d = true ∧ ds[j]? = some z ∧ PyData.eqv z d = true ∧ (∀ (m : Nat) (z' : PyData), m < j → ds[m]? = some z' → PyData.eqv z' d = false) ∧ Q (.int (j : Nat)) H) (fun d ds => match d with | .tuple _ => indexD d ds | _ => none) := by
  intro F H x xs d ds z Q g hd hds h q
  cases hd with
  | tup hs ha =>
    match ds, hds, h with
    | [e], .cons he .nil, h =>
      simp only [indexD] at h
      split at h
      · rename_i hsh
        rw [Bool.and_eq_true] at hsh
        obtain ⟨j, ej, rfl⟩ := Option.map_eq_some_iff.mp h
        obtain ⟨k, y, rfl, h2, h3, h4⟩ := idxD_some ej
        rw [Nat.zero_add] at q
        exact ⟨_, _, _, e, _, k, y, rfl, rfl, sqt_ext g hs, dps_ext g ha, dp_ext g he, hsh.1, hsh.2, h2, h3, h4, q _ F H (Alc.refl g) (.int _)⟩
      · cases h
    | [], _, h => cases h
    | _ :: _ :: _, _, h => cases h
  | _ => cases h
end

/-! ### defs of the text -/
section
variable {P : Program} {w : World} {K : PySem.W.Frag} {mg : Str → Option Value} {base : Heap}
/-- a def of the module, under its name -/
structure DefF (K : PySem.W.Frag) (mg : Str → Option Value) (x qual : Str) (st : Stmt) (ps : List Str) : Prop where
  ex : ∃ (f : Addr) (fd : FuncData), Fun K x qual st f fd ∧ mg x = some (.ref f) ∧ Binds K fd ps []
/-- .. as what it tells -/
structure DOk (P : Program) (w : World) (K : PySem.W.Frag) (mg : Str → Option Value) (base : Heap) (Y : Lay) (k : Nat) (x : Str) (n : Nat) (φ : Phi) : Prop where
  ex : ∃ (f : Addr) (fd : FuncData) (ps : List Str), FnOk P w K mg base (L2N.CX P w) k f fd ps (spD Y K n φ) ∧ mg x = some (.ref f) ∧ PySem.W.keepIn K (.ref f) = true ∧ Binds K fd ps []
theorem dok {Y : Lay} {x qual : Str} {st : Stmt} {N ps : List Str} {k : Nat} {m : MS} (D : DefF K mg x qual st ps) (S : FnScope N ps (defScope st))
    (hb : ∀ (f : Addr) (cdv : Value) (A : Around) (outer : List Env) (s : Shared) (H : Hp) (vs : List V) (E : XK), Room k (A.deeper (PyProof.Rows.envOfC qual (defScope st) s.heap.objs.size f cdv)) → vs.length = ps.length →
      PBd (cxOf (L2N.CX P w) P w K mg base N qual (defScope st) f cdv A outer s H E) ⟨Y, K, vs⟩ (wOf E) (defBody st) m) :
    DOk P w K mg base Y (k + 1) x ps.length (fnPhi (N.length - ps.length) m) := by
  obtain ⟨f, fd, F, hm, b⟩ := D.ex
  exact ⟨f, fd, ps, fn_data Y F S fun cdv A outer s H vs E hr hl => hb f cdv A outer s H vs E hr hl, hm, F.kp, b⟩
theorem DOk.le {Y : Lay} {k n : Nat} {x : Str} {φ ψ : Phi} (D : DOk P w K mg base Y k x n ψ) (h : PLe φ ψ) : DOk P w K mg base Y k x n φ := by
  obtain ⟨f, fd, ps, F, h1, h2, h3⟩ := D.ex
  exact ⟨f, fd, ps, fn_le F h, h1, h2, h3⟩
end
section
variable {X : Cx} {C : Lx} {Wx : WX} {k j n : Nat} {φ : Phi} {x y : Str} {p py pos : Pos} {e : Expr} {es : List Expr} {ms : M (List PyData)}
theorem pd_callO' {i : Nat} (D : DOk X.prog X.w X.K X.mg X.base C.Y k x n φ) (hK : C.K = X.K) (hr : Room j X.A) (hj : k ≤ j) (tk : L2N.Takes X Wx) (ha : PL X C Wx es ms)
    (hN : X.N[i]? = some y := by rfl) (hv : Vis X.env.scope y := by first | exact Or.inl rfl | exact Or.inr (Or.inl rfl) | exact Or.inr (Or.inr rfl)) (hd : (y == ("__debug__" : Str)) = false := by decide) (hcd : (y == ("__classdict__" : Str)) = false := by decide) (hg : Gl X x := by rfl)
    (hdb : (x == ("__debug__" : Str)) = false := by decide) (he : starEach (.Name y py :: es) X.env = (false, eval (.Name y py) X.env) :: starEach es X.env := by rfl) (hpl : (backTo pos (starEach es X.env)).any (·.1) = false := by rfl) :
    PD X C Wx (.Call (.Name x p) (.Name y py :: es) [] pos) (mcallO n φ i ms) := by
  obtain ⟨f, fd, ps, F, h1, h2, h3⟩ := D.ex
  rw [← hK] at F
  exact pd_callO i (by rw [← hK]; exact F) (hr.mono hj) tk h1 h2 h3 ha hN hv hd hcd hg hdb he hpl
theorem pd_def (D : DOk X.prog X.w X.K X.mg X.base C.Y k x n φ) (hK : C.K = X.K) (hr : Room j X.A) (hj : k ≤ j) (tk : L2N.Takes X Wx) (ha : PL X C Wx (e :: es) ms) (hg : Gl X x := by rfl)
    (hdb : (x == ("__debug__" : Str)) = false := by decide) (he : starEach (e :: es) X.env = (false, eval e X.env) :: starEach es X.env := by rfl) (hpl : (backTo pos (starEach es X.env)).any (·.1) = false := by rfl) :
    PD X C Wx (.Call (.Name x p) (e :: es) [] pos) (mcall n φ ms) := by
  obtain ⟨f, fd, ps, F, h1, h2, h3⟩ := D.ex
  rw [← hK] at F
  exact pd_call (by rw [← hK]; exact F) (hr.mono hj) tk h1 h2 h3 ha hg hdb he hpl
theorem takesN0 {X : Cx} : L2N.Takes X W0 := fun u s' h => by
  obtain ⟨a, B, sI, pins, σ, H, cls, d, e, I, nb, up, sky, na, os, ag, w⟩ := h
  exact w.elim
end
end RH

/-! The data layer, part 15: what the written derivations lean on. -/
namespace RH
open PySem PySem.Spec L2
def dead : MS := fun _ => none
theorem pb_dead {X : Cx} {C : Lx} {Wx : WX} {st : List Stmt} : PBd X C Wx st dead := ⟨fun pins s σ H D I h => by
  obtain ⟨δ, w, F, S, h⟩ := h
  exact h.elim⟩
theorem hu64 {j : Nat} {A : Around} (r : Room j A) : A.units + 64 < cLine := by have := r.units; omega
theorem hu65 {j : Nat} {A : Around} (r : Room j A) : A.units + 65 < cLine := by have := r.un; omega
theorem hu67 {j : Nat} {A : Around} (r : Room j A) : A.units + 67 < cLine := by have := r.un; omega
/-- the built-ins stand under their names -/
structure Bl (mg : Str → Option Value) : Prop where
  len : mg "len" = none
  range : mg "range" = none
  enumerate : mg "enumerate" = none
  zip : mg "zip" = none
  all : mg "all" = none
  any : mg "any" = none
  sum : mg "sum" = none
  min : mg "min" = none
  max : mg "max" = none
  abs : mg "abs" = none
  sorted : mg "sorted" = none
  isinstance : mg "isinstance" = none
  int : mg "int" = none
  bool : mg "bool" = none
  str : mg "str" = none
  tuple : mg "tuple" = none
  list : mg "list" = none
  dict : mg "dict" = none
/-- a class of errors of the text -/
structure ExF (K : PySem.W.Frag) (mg : Str → Option Value) (x : Str) (C : Addr) : Prop where
  gF : mg x = some (.ref C)
  xF : ∃ (B newId initId : String) (bmB : List Value), ExcBaseFacts B newId initId bmB ∧ PySem.W.excIn K C bmB newId = true
  kF : PySem.W.keepIn K (.ref C) = true
  bF : PySem.W.subIn K (.ref C) (.type "BaseException") = some true
  tF : PySem.W.typeIn K (.ref C) = some (.type "type")
section
variable {X : Cx} {C : Lx} {Wx : WX} {x z : Str} {p p2 p3 pos : Pos} {j : Nat}
theorem pd_raiseF (k : Nat) (E : ExF X.K X.mg x (C.Y.ex k)) (hc : X.calm = true) (tk : L2N.Takes X Wx) (hg : Gl X x := by rfl) (hdb : (x == ("__debug__" : Str)) = false := by decide) : PSd X C Wx (.Raise (some (.Call (.Name x p) [.Constant (.str z) j p2] [] p3)) none pos) (sraise k) := by
  obtain ⟨B, n, i, bm, h1, h2⟩ := E.xF
  exact pd_raise hc tk h1 h2 E.gF E.kF (raises_own E.bF E.tF) hg hdb
theorem pd_index {o e : Expr} {apos : Pos} {m : M PyData} {ms : M (List PyData)} (hKT : KT X.K) (hu : X.A.units + 65 < cLine) (hK : C.K = X.K) (ho : PD X C Wx o m) (ha : PL X C Wx [e] ms)
    (hbase : attributeBase o "index" X.env (eval o X.env) = eval o X.env := by rfl)
    (hfew : ((backTo pos (starEach [e] X.env)).all (fun x => !x.1) && (backToKw pos (keywordEach [] X.env)).all (fun x => x.1.isSome)
      && decide ([e].length + ([] : List Keyword).length + (if ([] : List Keyword).isEmpty then 0 else 1) < 30)) = true := by rfl)
    (hline : (apos.endLine == pos.line) = true := by rfl) (hs : starEach [e] X.env = (false, eval e X.env) :: starEach [] X.env := by rfl) (hplain : (backTo pos (starEach [] X.env)).any (·.1) = false := by rfl) :
    PD X C Wx (.Call (.Attribute o "index" apos) [e] [] pos) (mMT "tuple" (fun d ds => match d with | .tuple _ => indexD d ds | _ => none) m ms) :=
  pd_meth hKT hK PySem.F.plainAttrs_tuple PySem.F.slot_tuple_index PySem.F.type_tuple_index (mt_indexT hu) rd_indexT ho ha hbase hfew hline hs hplain
theorem pd_indexL {o e : Expr} {apos : Pos} {m : M PyData} {ms : M (List PyData)} (hKT : KT X.K) (hu : X.A.units + 65 < cLine) (hK : C.K = X.K) (ho : PD X C Wx o m) (ha : PL X C Wx [e] ms)
    (hbase : attributeBase o "index" X.env (eval o X.env) = eval o X.env := by rfl)
    (hfew : ((backTo pos (starEach [e] X.env)).all (fun x => !x.1) && (backToKw pos (keywordEach [] X.env)).all (fun x => x.1.isSome)
      && decide ([e].length + ([] : List Keyword).length + (if ([] : List Keyword).isEmpty then 0 else 1) < 30)) = true := by rfl)
    (hline : (apos.endLine == pos.line) = true := by rfl) (hs : starEach [e] X.env = (false, eval e X.env) :: starEach [] X.env := by rfl) (hplain : (backTo pos (starEach [] X.env)).any (·.1) = false := by rfl) :
    PD X C Wx (.Call (.Attribute o "index" apos) [e] [] pos) (mMT "list" (fun d ds => match d with | .list _ => indexD d ds | _ => none) m ms) :=
  pd_meth hKT hK PySem.F.plainAttrs_list PySem.F.slot_list_index PySem.F.type_list_index (mt_indexD hu) rd_indexL ho ha hbase hfew hline hs hplain
end
end RH

/-! The data layer, part 16: name = [.. for ..] of a local name; a < b < c as a test. -/
namespace RH
open PySem PySem.Spec L2
section
variable {X : Cx} {C : Lx} {Wx : WX} {tg iter elt tg1 iter1 : Expr} {ifs ifs1 : List Expr} {mi mi1 : M (List PyData)} {mt mt1 : M Bool} {me : M PyData} {t t1 : Tg} {pos spos py : Pos} {scope : Scope} {y : Str} {mo : M (List PyData)}
theorem frz_tO {σ : St} {H : Hp} {D : Ends} {i : Nat} (h : tSt C Wx (sasg (.nm i) (mfrz mo)) D σ H) : tO C Wx mo σ H fun x H1 => D.nx (σ.set i (some x)) H1 := by
  obtain ⟨δ, w, F, S, h⟩ := h
  refine ⟨δ, w, F, S, tAt_mono (tAt_bind0 (tSt_bind0 h)) fun xs δ1 w1 F1 H1 S1 g1 h1 p vs h0 hp nF nw hv => ?_⟩
  have h2 := h1 w1 (upd F1 p (.lst vs)) H1 (S1.frzP hp nF nw) (g1.frz h0 nF)
  exact h2 _ _ (upd F1 p (.lst vs)) H1 ((S1.frzP hp nF nw).setV i (.lst (.inl (.inl upd_same)) (dps_ext (Grw.new nF) hv))) ((g1.frz h0 nF).trans step_off)
theorem own_tO {σ : St} {H : Hp} {D : Ends} {i : Nat} (hlo : C.vs0.length ≤ i) (hl : i < σ.length) (h : tSt C Wx (ssetO i mo) D σ H) : tO C Wx mo σ H fun x H1 => D.nx (σ.set i (some x)) H1 := by
  obtain ⟨δ, w, F, S, h⟩ := h
  refine ⟨δ, w, F, S, tAt_mono (tSt_bind0 h) fun xs δ1 w1 F1 H1 S1 g1 h1 p vs h0 hp nF nw hv => ?_⟩
  exact h1 _ _ F1 H1 (S1.setO i hlo (by rw [S1.len]; exact hl) (.b ⟨_, hp, vs, rfl, hv⟩) (fun a ha => by rw [List.mem_singleton.mp ha]; exact nF) (fun a ha => by rw [List.mem_singleton.mp ha]; exact nw)) (g1.put h0)
/-- name = [elt for tg in iter if ..], a local name on the same line -/
theorem ps_lcT (i : Nat) (own : List (Str × Nat)) (vs : List Nat) (hc : X.calm = true) (hN : X.N.Nodup) (hi : PId X C Wx tg iter mi) (hvs : own.map (·.2) = vs) (ht : ∀ j ∈ t.slots, j ∈ vs) (ok : BlkOk X.N X.env.scope scope own)
    (hg : ∀ (s : Shared) (H : Hp) (Cc : Addr) (cl : List (Str × Addr)) (fp : List Addr), PG (X.blk s H scope (compEnvC scope cl Cc X.env) fp) tg (tG C t)) (hts : ∀ (s : Shared) (H : Hp) (Cc : Addr) (cl : List (Str × Addr)) (fp : List Addr), PTs (X.blk s H scope (compEnvC scope cl Cc X.env) fp) ifs (tT C W0 mt))
    (he : ∀ (s : Shared) (H : Hp) (Cc : Addr) (cl : List (Str × Addr)) (fp : List Addr), PE (X.blk s H scope (compEnvC scope cl Cc X.env) fp) elt (tE C W0 me))
    (hsw : swapsWith (.ListComp elt [⟨tg, iter, ifs, 0⟩] scope pos) (some (.Name y py)) spos.line X.env = pure true) (hy : X.N[i]? = some y) (hyl : X.env.scope.names.lookup y = some .local) (hs : ∀ x, foldedSetIterable iter X.env x = pure x) :
    PS X (.Assign [.Name y py] (.ListComp elt [⟨tg, iter, ifs, 0⟩] scope pos) spos) (fun D σ H => tO C Wx (mcomp mi vs t mt me) σ H fun x H1 => D.nx (σ.set i (some x)) H1) :=
  ps_weak (ps_setLc hc hN hy hyl hsw hi ok hg hts he hs) fun D σ H q => lc_tO hvs ht q
theorem pd_setLc (i : Nat) (own : List (Str × Nat)) (vs : List Nat) (hc : X.calm = true) (hN : X.N.Nodup) (hi : PId X C Wx tg iter mi) (hvs : own.map (·.2) = vs) (ht : ∀ j ∈ t.slots, j ∈ vs) (ok : BlkOk X.N X.env.scope scope own)
    (hg : ∀ (s : Shared) (H : Hp) (Cc : Addr) (cl : List (Str × Addr)) (fp : List Addr), PG (X.blk s H scope (compEnvC scope cl Cc X.env) fp) tg (tG C t)) (hts : ∀ (s : Shared) (H : Hp) (Cc : Addr) (cl : List (Str × Addr)) (fp : List Addr), PTs (X.blk s H scope (compEnvC scope cl Cc X.env) fp) ifs (tT C W0 mt))
    (he : ∀ (s : Shared) (H : Hp) (Cc : Addr) (cl : List (Str × Addr)) (fp : List Addr), PE (X.blk s H scope (compEnvC scope cl Cc X.env) fp) elt (tE C W0 me))
    (hsw : swapsWith (.ListComp elt [⟨tg, iter, ifs, 0⟩] scope pos) (some (.Name y py)) spos.line X.env = pure true := by rfl) (hy : X.N[i]? = some y := by rfl) (hyl : X.env.scope.names.lookup y = some .local := by rfl) (hs : ∀ x, foldedSetIterable iter X.env x = pure x := by intro _; rfl) :
    PSd X C Wx (.Assign [.Name y py] (.ListComp elt [⟨tg, iter, ifs, 0⟩] scope pos) spos) (sasg (.nm i) (mfrz (mcomp mi vs t mt me))) :=
  ps_weak (ps_lcT i own vs hc hN hi hvs ht ok hg hts he hsw hy hyl hs) fun D σ H q => frz_tO q
theorem pd_setLcO (i : Nat) (own : List (Str × Nat)) (vs : List Nat) (hc : X.calm = true) (hN : X.N.Nodup) (hlo : C.vs0.length ≤ i) (hi : PId X C Wx tg iter mi) (hvs : own.map (·.2) = vs) (ht : ∀ j ∈ t.slots, j ∈ vs) (ok : BlkOk X.N X.env.scope scope own)
    (hg : ∀ (s : Shared) (H : Hp) (Cc : Addr) (cl : List (Str × Addr)) (fp : List Addr), PG (X.blk s H scope (compEnvC scope cl Cc X.env) fp) tg (tG C t)) (hts : ∀ (s : Shared) (H : Hp) (Cc : Addr) (cl : List (Str × Addr)) (fp : List Addr), PTs (X.blk s H scope (compEnvC scope cl Cc X.env) fp) ifs (tT C W0 mt))
    (he : ∀ (s : Shared) (H : Hp) (Cc : Addr) (cl : List (Str × Addr)) (fp : List Addr), PE (X.blk s H scope (compEnvC scope cl Cc X.env) fp) elt (tE C W0 me))
    (hsw : swapsWith (.ListComp elt [⟨tg, iter, ifs, 0⟩] scope pos) (some (.Name y py)) spos.line X.env = pure true := by rfl) (hy : X.N[i]? = some y := by rfl) (hyl : X.env.scope.names.lookup y = some .local := by rfl) (hs : ∀ x, foldedSetIterable iter X.env x = pure x := by intro _; rfl) :
    PSd X C Wx (.Assign [.Name y py] (.ListComp elt [⟨tg, iter, ifs, 0⟩] scope pos) spos) (ssetO i (mcomp mi vs t mt me)) :=
  ⟨fun pins s σ H D I q => (ps_lcT i own vs hc hN hi hvs ht ok hg hts he hsw hy hyl hs).run pins s σ H D I (own_tO hlo (by rw [I.len]; exact (List.getElem?_eq_some_iff.mp hy).1) q)⟩

/-! ### a < b < c as a test -/
variable {a b c : Expr} {ma mb mc : M PyData} {f g : PyData → PyData → Option PyData}
def mchT (f g : PyData → PyData → Option PyData) (a b c : M PyData) : M Bool := mbind a fun x => mbind b fun y => mbind (mlift (f x y)) fun r => mbind (mlift (asB r)) fun k => if k then mbind c fun z => mbind (mlift (g y z)) fun r => mlift (asB r) else mpure false
theorem pb_chainD {op op' : CmpOp} (ho : OpD X (compareOp op) f) (ho' : OpD X (compareOp op') g) (hK : C.K = X.K) (ha : PD X C Wx a ma) (hb : PD X C Wx b mb) (hc : PD X C Wx c mc) (hm : lastMarks [op, op'] [b, c] = false := by with_unfolding_all rfl) :
    PB X C Wx (.Compare a [op, op'] [b, c] pos) (mchT f g ma mb mc) := by
  refine pt_weak (pt_chain ho ho' ha hb hc hm) fun σ H Q q => ?_
  obtain ⟨δ, w, F, S, h⟩ := q
  refine tE_then S h fun d δ1 w1 F1 H1 v S1 g1 hv h1 => ?_
  refine tE_then S1 h1 fun d2 δ2 w2 F2 H2 v2 S2 g2 hv2 h2 => ?_
  obtain ⟨z, ez, q3⟩ := tAt_lift (tAt_bind h2)
  refine ⟨F2, d, d2, z, S2.sub, by rw [← hK]; exact dp_ext g2.ff hv, by rw [← hK]; exact hv2, ez, ?_⟩
  rw [← hK]
  intro v3 F3 H3 al hv3
  have S3 := S2.alc al
  obtain ⟨k, ek, q4⟩ := tAt_lift (tAt_bind (q3 w2 F3 H3 S3 (al.step _ _ fun _ h => h)))
  have h5 := q4 w2 F3 H3 S3 S3.here
  obtain ⟨rfl, rfl⟩ := asB_of hv3 ek
  refine ⟨_, rfl, ?_⟩
  cases k with
  | true =>
    rw [if_pos rfl] at h5
    rw [if_pos rfl]
    refine tE_then S3 h5 fun d5 δ5 w5 F5 H5 v5 S5 g5 hv5 h6 => ?_
    obtain ⟨z2, ez2, q6⟩ := tAt_lift (tAt_bind h6)
    refine ⟨F5, d2, d5, z2, S5.sub, dp_ext (al.ff.trans g5.ff) hv2, hv5, ez2, ?_⟩
    intro v6 F6 H6 al6 hv6
    have S6 := S5.alc al6
    obtain ⟨k2, ek2, q7⟩ := tAt_lift (q6 w5 F6 H6 S6 (al6.step _ _ fun _ h => h))
    obtain ⟨rfl, rfl⟩ := asB_of hv6 ek2
    exact ⟨_, rfl, q7 w5 F6 H6 S6 S6.here⟩
  | false =>
    rw [if_neg Bool.false_ne_true] at h5
    rw [if_neg Bool.false_ne_true]
    exact ⟨false, rfl, tAt_pure h5 w2 F3 H3 S3 S3.here⟩
end
end RH

/-! The data layer, part 17: a new list of new lists, made by a def, walked by a loop that changes each. -/
namespace RH
open PySem PySem.Spec L2
section
variable {K : PySem.W.Frag} {F H F' H' : Hp} {w w' : Wn} {vs : List V} {cs : List Cv} {ps : List Addr}
theorem CvsOk.at_ (h : CvsOk K F H w vs cs ps) : ∀ p ∈ ps, ∃ va, H p = some (.lst va) := by
  induction h with
  | nil => exact fun _ h => by cases h
  | v _ _ ih => exact ih
  | o h1 _ _ _ _ _ ih =>
    intro q hq
    rcases List.mem_cons.mp hq with rfl | hq
    · exact ⟨_, h1⟩
    · exact ih q hq
theorem CvsOk.step (h : CvsOk K F H w vs cs ps) (g : Step w.has F H F' H' w'.has) : CvsOk K F' H' w' vs cs ps := by
  induction h with
  | nil => exact .nil
  | v a _ ih => exact .v (dp_ext g.ff a) ih
  | o h1 h2 h3 h4 h5 _ ih => exact .o (g.keep _ _ h3 h1 fun ps z => by cases z) (g.prot _ (by rw [h1]; simp) h2 h3) (fun z => (g.ownd _ z).elim h3 fun q => by rw [h1] at q; cases q) (dps_ext g.ff h4) h5 ih
theorem CvsOk.alc (h : CvsOk K F H w vs cs ps) (a : Alc F H F' H') : CvsOk K F' H' w vs cs ps := h.step (a.step _ _ fun _ h => h)
theorem CvsOk.upd {D : Addr} {o : HO} (h : CvsOk K F H w vs cs ps) (hD : D ∉ ps) : CvsOk K F (L2.upd H D o) w vs cs ps := by
  induction h with
  | nil => exact .nil
  | v a _ ih => exact .v a (ih hD)
  | o h1 h2 h3 h4 h5 _ ih => exact .o (by rw [upd_ne (fun z => hD (by rw [← z]; exact List.mem_cons_self))]; exact h1) h2 h3 h4 h5 (ih fun z => hD (List.mem_cons_of_mem _ z))
theorem CvsOk.app (h : CvsOk K F H w vs cs ps) {p : Addr} {va : List V} {xs : List PyData} (h1 : H p = some (.lst va)) (h2 : F p = none) (h3 : ¬ w.has p) (h4 : DpAll K F va xs) (h5 : p ∉ ps) : CvsOk K F H w (vs ++ [.ref p]) (cs ++ [.o xs]) (ps ++ [p]) := by
  induction h with
  | nil => exact .o h1 h2 h3 h4 h5 .nil
  | v a _ ih => exact .v a (ih h5)
  | o a1 a2 a3 a4 a5 _ ih =>
    refine .o a1 a2 a3 a4 (fun z => ?_) (ih fun z => h5 (List.mem_cons_of_mem _ z))
    rcases List.mem_append.mp z with z | z
    · exact a5 z
    · exact h5 (by rw [← List.mem_singleton.mp z]; exact List.mem_cons_self)
end
section
variable {X : Cx} {C : Lx} {Wx : WX} {tg iter elt : Expr} {ifs : List Expr} {mi : M (List PyData)} {mt : M Bool} {me : M (List PyData)} {t : Tg} {pos : Pos} {scope : Scope}
def mcloopO (vs : List Nat) (t : Tg) (me : M (List PyData)) : List PyData → List Slot → Option (List (List PyData) × List Slot)
  | [], δ => some ([], δ)
  | d :: ds, δ => match bindT t d (wipeD δ vs) with
    | none => none
    | some δ1 => match me δ1 with
        | some (.ok y δ3) => (match mcloopO vs t me ds δ3 with
          | some (ys, δ4) => some (y :: ys, δ4)
          | none => none)
        | _ => none
def mcompLO (vs : List Nat) (t : Tg) (me : M (List PyData)) (ds : List PyData) : M (List (List PyData)) := fun δ => if ds.length ≤ 1000000 then (match mcloopO vs t me ds δ with
  | some (ys, δe) => some (.ok ys (restore δ δe vs))
  | none => none) else none
def mcompO (mi : M (List PyData)) (vs : List Nat) (t : Tg) (me : M (List PyData)) : M (List (List PyData)) := mbind mi (mcompLO vs t me)
/-- e makes a new list of new lists -/
def tLO (C : Lx) (Wx : WX) (m : M (List (List PyData))) : TE := fun σ H Q => ∃ δ w F, C.ok F H σ δ w ∧ tAt C Wx m σ δ w F H fun xss _ w' F' H' => ∀ a va ps, (∀ p ∈ a :: ps, H p = none) → H' a = some (.lst va) → a ∉ ps → ¬ w'.has a → CvsOk C.K F' H' w' va (xss.map .o) ps → Q (.ref a) H'
theorem lco_turns {σ : St} {vs : List Nat} {ds : List PyData} {ys : List (List PyData)} {δ1 δe : List Slot} {w1 : Wn} {F1 H1 : Hp} {J : It} {D : Addr} {Qd : Hp → Prop} (hJ : ItD C.K F1 J ds) (hD : H1 D = none) (S1 : C.ok F1 H1 σ δ1 w1) (hz : ds.length ≤ 1000000)
    (hm : mcloopO vs t me ds δ1 = some (ys, δe)) (ht : ∀ j ∈ t.slots, j ∈ vs)
    (hd : ∀ w' F' H' va ps, C.ok F' H' σ (restore δ1 δe vs) w' → Step w1.has F1 H1 F' H' w'.has → H' D = some (.lst va) → (∀ p ∈ ps, H1 p = none) → D ∉ ps → ¬ w'.has D → CvsOk C.K F' H' w' va (ys.map .o) ps → Qd H') :
    ∃ W : Nat → Nat → Hp → Prop, (∃ m, W 0 m (upd H1 D (.lst []))) ∧ ∀ i m H, W i m H →
      (J.stop i H ∧ Qd H) ∨ (J.go i H ∧ ∃ Nx : Hp → Prop, (∀ H', Nx H' → ∃ m', m' < m ∧ W (i + 1) m' H') ∧ ∀ x H', J.yld i H x H' → tG C t x (L2.wipe σ vs) H' fun σ2 H2 => L2.wipe σ2 vs = L2.wipe σ vs ∧ tT C W0 mtrue σ2 H2 fun b H3 =>
        if b = true then tO C W0 me σ2 H3 fun y H4 => ∃ acc, H4 D = some (.lst acc) ∧ acc.length < sizeLine ∧ Nx (upd H4 D (.lst (acc ++ [y]))) else Nx H3) := by
  refine ⟨fun i m H => m = ds.length - i ∧ i ≤ ds.length ∧ ∃ acc rest δ2 w2 F2 va ps, C.ok F2 H (L2.wipe σ vs) (wipeD δ2 vs) w2 ∧ Step w1.has F1 H1 F2 H w2.has ∧ H D = some (.lst va) ∧ F2 D = none ∧ ¬ w2.has D ∧ (∀ p ∈ ps, H1 p = none) ∧ D ∉ ps ∧ CvsOk C.K F2 H w2 va (acc.map .o) ps ∧ acc.length ≤ i ∧
    mcloopO vs t me (ds.drop i) δ2 = some (rest, δe) ∧ acc ++ rest = ys, ⟨ds.length, by simp, Nat.zero_le _, [], ys, δ1, w1.offs vs, F1, [], [], ?_, ?_, upd_same, S1.sub.none hD, fun z => S1.there (Wn.offs_has z) hD, (fun _ h => by cases h), (fun h => by cases h), .nil, Nat.le_refl _, hm, rfl⟩, ?_⟩
  · exact (S1.wipe vs).alc (Alc.grwL S1.sub hD)
  · exact (Step.refl fun _ h => Wn.offs_has h).updD hD
  rintro i m H ⟨rfl, hi, acc, rest, δ2, w2, F2, va, ps, S2, g2, hv, nF, nw, hps, hDp, hc, hl, hm2, e2⟩
  by_cases hlt : i < ds.length
  · refine .inr ⟨hJ.go i F2 H g2.ff S2.sub hlt, fun H' => ∃ acc rest δ2 w2 F2 va ps, C.ok F2 H' (L2.wipe σ vs) (wipeD δ2 vs) w2 ∧ Step w1.has F1 H1 F2 H' w2.has ∧ H' D = some (.lst va) ∧ F2 D = none ∧ ¬ w2.has D ∧ (∀ p ∈ ps, H1 p = none) ∧ D ∉ ps ∧ CvsOk C.K F2 H' w2 va (acc.map .o) ps ∧ acc.length ≤ i + 1 ∧
      mcloopO vs t me (ds.drop (i + 1)) δ2 = some (rest, δe) ∧ acc ++ rest = ys, fun H' h' => ⟨ds.length - (i + 1), by omega, rfl, hlt, h'⟩, ?_⟩
    intro x H3 hy
    obtain ⟨F3, d, al, hd', hx⟩ := hJ.yld i F2 H x H3 g2.ff S2.sub hlt hy
    have ed : ds.drop i = d :: ds.drop (i + 1) := by
      rw [List.drop_eq_getElem_cons hlt]
      rw [List.getElem?_eq_getElem hlt] at hd'
      rw [Option.some.inj hd']
    rw [ed] at hm2
    simp only [mcloopO] at hm2
    cases eb : bindT t d (wipeD δ2 vs) with
    | none => rw [eb] at hm2; cases hm2
    | some δb =>
      rw [eb] at hm2
      dsimp only at hm2
      have hv3 : H3 D = some (.lst va) := al.hh D _ hv
      have nF3 : F3 D = none := al.prot D (by rw [hv]; simp) nF
      have hc3 := hc.alc al
      refine ⟨_, w2, F3, d, δb, S2.alc al, hx, eb, fun σ' w' S' gs wz => ⟨?_, ?_⟩⟩
      · exact (wz vs ht).trans (wipe_twice σ vs)
      · have gA : Step w1.has F1 H1 F3 H3 w'.has := (g2.trans (al.step w2.has w2.has fun _ h => h)).trans (Step.sub gs)
        have nw' : ¬ w'.has D := fun z => nw (gs D z)
        have ew : L2.wipe σ' vs = L2.wipe σ vs := (wz vs ht).trans (wipe_twice σ vs)
        have hc4 : CvsOk C.K F3 H3 w' va (acc.map .o) ps := hc3.put fun p hp => .inl (gs p hp)
        refine ⟨δb, w', F3, S', ?_⟩
        simp only [tAt, mtrue, mpure]
        intro w4 F4 H4 S4 g4
        have k4 : H4 D = some (.lst va) := g4.keep D _ nw' hv3 (fun ps z => by cases z)
        have n4 : F4 D = none := g4.prot D (by rw [hv3]; simp) nF3 nw'
        have nw4 : ¬ w4.has D := fun z => (g4.ownd D z).elim nw' fun q => by rw [hv3] at q; cases q
        have hc5 := hc4.step g4
        rw [if_pos trivial]
        refine ⟨δb, w4, F4, S4, ?_⟩
        simp only [tAt]
        cases em2 : me δb with
        | none => rw [em2] at hm2; cases hm2
        | some r2 =>
          rw [em2] at hm2
          cases r2 with
          | ex c δ' => cases hm2
          | ok y δ5 =>
            dsimp only at hm2
            intro w5 F5 H5 S5 g5 p vp hp0 hp hpF hpw hpv
            have k5 : H5 D = some (.lst va) := g5.keep D _ nw4 k4 (fun ps z => by cases z)
            have n5 : F5 D = none := g5.prot D (by rw [k4]; simp) n4 nw4
            have nw5 : ¬ w5.has D := fun z => (g5.ownd D z).elim nw4 fun q => by rw [k4] at q; cases q
            have hc6 := hc5.step g5
            have hlen := cvs_len hc
            rw [List.length_map] at hlen
            have hpD : p ≠ D := fun z => by rw [z, k4] at hp0; cases hp0
            have hpps : p ∉ ps := fun z => by
              obtain ⟨va', e⟩ := hc5.at_ p z
              rw [e] at hp0
              cases hp0
            have gB := (gA.trans g4).trans g5
            have hpH : H1 p = none := by
              cases q : H1 p with
              | none => rfl
              | some o => exact absurd hp0 ((gA.trans g4).live p (by rw [q]; simp))
            refine ⟨va, k5, small_lt (by rw [hlen]; omega), ?_⟩
            cases er : mcloopO vs t me (ds.drop (i + 1)) δ5 with
            | none => rw [er] at hm2; cases hm2
            | some r3 =>
              obtain ⟨ys3, δ6⟩ := r3
              rw [er] at hm2
              cases hm2
              refine ⟨acc ++ [y], ys3, δ5, w5.offs vs, F5, va ++ [.ref p], ps ++ [p], ?_, ((gB.updD hD).trans (Step.sub fun _ h => Wn.offs_has h)), upd_same, n5, fun z => nw5 (Wn.offs_has z), ?_, ?_, ?_, by rw [List.length_append, List.length_singleton]; omega, er, by rw [List.append_assoc]; exact e2⟩
              · rw [← ew]
                exact (S5.wipe vs).updP k5 n5 fun z => nw5 (Wn.offs_has z)
              · intro q hq
                rcases List.mem_append.mp hq with hq | hq
                · exact hps q hq
                · rw [List.mem_singleton.mp hq]
                  exact hpH
              · intro z
                rcases List.mem_append.mp z with z | z
                · exact hDp z
                · exact hpD (List.mem_singleton.mp z).symm
              · rw [List.map_append]
                refine CvsOk.put (w := w5) (CvsOk.upd (hc6.app hp hpF hpw hpv hpps) fun z => ?_) fun q hq => .inl (Wn.offs_has hq)
                rcases List.mem_append.mp z with z | z
                · exact hDp z
                · exact hpD (List.mem_singleton.mp z).symm
  · have e : i = ds.length := by omega
    subst e
    rw [List.drop_length] at hm2
    simp only [mcloopO] at hm2
    cases hm2
    rw [List.append_nil] at e2
    subst e2
    exact .inl ⟨hJ.stop F2 H g2.ff S2.sub, hd w2 F2 H va ps (S1.unwipe g2.ff S2) g2 hv hps hDp nw hc⟩
theorem po_lcO (own : List (Str × Nat)) (vs : List Nat) (hc : X.calm = true) (hN : X.N.Nodup) (hi : PId X C Wx tg iter mi) (hvs : own.map (·.2) = vs) (ht : ∀ j ∈ t.slots, j ∈ vs) (ok : BlkOk X.N X.env.scope scope own)
    (hg : ∀ (s : Shared) (H : Hp) (Cc : Addr) (cl : List (Str × Addr)) (fp : List Addr), PG (X.blk s H scope (compEnvC scope cl Cc X.env) fp) tg (tG C t))
    (he : ∀ (s : Shared) (H : Hp) (Cc : Addr) (cl : List (Str × Addr)) (fp : List Addr), PO (X.blk s H scope (compEnvC scope cl Cc X.env) fp) C W0 elt me) (hs : ∀ x, foldedSetIterable iter X.env x = pure x := by intro _; rfl) :
    PE X (.ListComp elt [⟨tg, iter, [], 0⟩] scope pos) (tLO C Wx (mcompO mi vs t me)) := by
  refine pe_weak (pe_lc hc hN hi ok hg (fun s H Cc cl fp => (pts_yes (C := C) (Wx := W0))) he hs) fun σ H Q q => ?_
  obtain ⟨δ, w, F, S, h⟩ := q
  rw [hvs]
  refine ⟨δ, w, F, S, tAt_mono (tAt_bind0 h) fun ds δ1 w1 F1 H1 S1 g1 h1 J hJ => fun D hD => ?_⟩
  simp only [tAt, mcompLO] at h1
  split at h1
  · exact False.elim h1
  · rename_i ys δr e1
    split at e1
    · rename_i hz
      split at e1
      · rename_i ys' δe hm
        cases e1
        have fr : ∀ p, H1 p = none → H p = none := fun p hp => by
          cases q : H p with
          | none => rfl
          | some o => exact absurd hp (g1.live p (by rw [q]; simp))
        refine lco_turns hJ hD S1 hz hm ht fun w' F' H' va ps S' g' hp hps hDp nw hcv => h1 w' F' H' S' (g1.trans g') D va ps (fun p hp => ?_) hp hDp nw hcv
        rcases List.mem_cons.mp hp with rfl | hp
        · exact fr _ hD
        · exact fr p (hps p hp)
      · cases e1
    · cases e1
  · rename_i c δr e1
    split at e1
    · split at e1
      · cases e1
      · cases e1
    · cases e1

/-! ### the def -/
abbrev PhiR := List Slot → Option (List (List PyData))
def spR (Y : Lay) (K : PySem.W.Frag) (n : Nat) (φ : PhiR) : Sp := fun vs H Q E => vs.length = n ∧ ∃ ss w F, ArgOk Y K F H vs ss w ∧ match φ ss with
  | none => False
  | some xss => ∀ a va ps F' H' ss' w', ArgOk Y K F' H' vs ss' w' → Step w.has F H F' H' w'.has → (∀ p ∈ a :: ps, H p = none) → H' a = some (.lst va) → a ∉ ps → CvsOk K F' H' w' va (xss.map .o) ps → Q (.ref a) H'
def fnPhiR (k : Nat) (m : M (List (List PyData))) : PhiR := fun ss => match m (ss ++ List.replicate k .no) with
  | some (.ok xss _) => some xss
  | _ => none
section
variable {P : Program} {w : World} {K : PySem.W.Frag} {mg : Str → Option Value} {base : Heap}
theorem fn_dataR (Y : Lay) {x qual : Str} {st : Stmt} {f : Addr} {fd : FuncData} {N ps : List Str} {k : Nat} {e : Expr} {pos : Pos} {m : M (List (List PyData))} (FN : Fun K x qual st f fd) (S : FnScope N ps (defScope st))
    (hb : ∀ (cdv : Value) (A : Around) (outer : List Env) (s : Shared) (H : Hp) (vs : List V) (E : XK), Room k (A.deeper (PyProof.Rows.envOfC qual (defScope st) s.heap.objs.size f cdv)) → vs.length = ps.length →
      PE (cxOf (L2N.CX P w) P w K mg base N qual (defScope st) f cdv A outer s H E) e (tLO ⟨Y, K, vs⟩ (wOf E) m)) (he : defBody st = [.Return (some e) pos]) :
    FnOk P w K mg base (L2N.CX P w) (k + 1) f fd ps (spR Y K ps.length (fnPhiR (N.length - ps.length) m)) := by
  refine okN FN S (fun vs H Q E h => h.1) fun cdv A outer s H vs Q E hr h => ?_
  rw [he]
  refine ⟨_, pss_one (ps_ret (hb cdv A outer s H vs E hr h.1)), ?_⟩
  obtain ⟨hl, ss, w0, F, SA, q⟩ := h
  have ek : N.length - vs.length = N.length - ps.length := by rw [hl]
  refine ⟨ss ++ List.replicate (N.length - ps.length) .no, w0, F, ?_, ?_⟩
  · show SOk Y K vs F H (L2.start N vs) _ w0
    unfold L2.start
    rw [ek]
    exact argOk_start SA _
  · unfold fnPhiR at q
    simp only [tAt]
    cases e : m (ss ++ List.replicate (N.length - ps.length) .no) with
    | none => rw [e] at q; exact q.elim
    | some r =>
      rw [e] at q
      cases r with
      | ok xss δ =>
        intro w' F' H' S' g a va ps' hp hv ha hna hc
        exact q a va ps' F' H' _ _ (argOk_end SA g.ff S') (g.mono (fun _ h => h) fun b h => .inl (backW_has h)) hp hv ha (hc.put fun p hp => .inl (backW_has hp))
      | ex c δ => exact q.elim
end
section
variable {X : Cx} {C : Lx} {Wx : WX} {k n j : Nat} {φ : PhiR} {x : Str} {p pos py : Pos} {e iter : Expr} {es : List Expr} {ms : M (List PyData)} {body : List Stmt} {mb : MS} {mss : M (List (List PyData))}
structure ROk (P : Program) (w : World) (K : PySem.W.Frag) (mg : Str → Option Value) (base : Heap) (Y : Lay) (k : Nat) (x : Str) (n : Nat) (φ : PhiR) : Prop where
  ex : ∃ (f : Addr) (fd : FuncData) (ps : List Str), FnOk P w K mg base (L2N.CX P w) k f fd ps (spR Y K n φ) ∧ mg x = some (.ref f) ∧ PySem.W.keepIn K (.ref f) = true ∧ Binds K fd ps []
def mcallR (n : Nat) (φ : PhiR) (ms : M (List PyData)) : M (List (List PyData)) := mbind ms fun ds δ => if ds.length = n then (match φ (ds.map .val) with
  | some xss => some (.ok xss δ)
  | none => none) else none
theorem pe_callR (D : ROk X.prog X.w X.K X.mg X.base C.Y k x n φ) (hK : C.K = X.K) (hr : Room j X.A) (hj : k ≤ j) (tk : L2N.Takes X Wx) (ha : PL X C Wx (e :: es) ms) (hg : Gl X x := by rfl)
    (hdb : (x == ("__debug__" : Str)) = false := by decide) (he : starEach (e :: es) X.env = (false, eval e X.env) :: starEach es X.env := by rfl) (hpl : (backTo pos (starEach es X.env)).any (·.1) = false := by rfl) :
    PE X (.Call (.Name x p) (e :: es) [] pos) (tLO C Wx (mcallR n φ ms)) := by
  obtain ⟨f, fd, ps, FN, hm, hk, hb⟩ := D.ex
  refine pe_weak (pe_callS FN (hr.mono hj) hg hm hk hb (fun σ => L2N.passAt tk σ) ha hdb he hpl) fun σ H Q q => ?_
  obtain ⟨δ, w, F, S, h⟩ := q
  refine ⟨δ, w, F, S, tAt_mono (tAt_bind0 h) fun ds δ1 w1 F1 H1 S1 g1 h1 vs hvs => ?_⟩
  simp only [tAt] at h1
  split at h1
  · exact h1.elim
  · rename_i a δ' e1
    split at e1
    · rename_i hl
      refine ⟨by rw [dps_len hvs]; exact hl, ds.map .val, fun _ => [], F1, by rw [← hK]; exact argOk_vals S1 hvs, ?_⟩
      cases e2 : φ (ds.map .val) with
      | none => rw [e2] at e1; cases e1
      | some xss =>
        rw [e2] at e1
        cases e1
        intro a va ps F' H' ss' w' A g hp hv ha hc
        rw [← hK] at A hc
        have S2 := S1.called A g
        have g2 : Step w1.has F1 H1 F' H' w1.has := g.mono (fun b ⟨_, z⟩ => by simp at z) fun b z => .inr z
        have fr : ∀ p, H1 p = none → H p = none := fun p hp => by
          cases q : H p with
          | none => rfl
          | some o => exact absurd hp (g1.live p (by rw [q]; simp))
        refine h1 w1 F' H' S2 (g1.trans g2) a va ps (fun p h => fr p (hp p h)) hv ha (fun z => S1.there z (hp a List.mem_cons_self)) (hc.put fun p hp' => .inr fun hm => S1.there hp' (hp p (List.mem_cons_of_mem _ hm)))
    · cases e1
  · rename_i c δ' e1
    split at e1
    · split at e1 <;> cases e1
    · cases e1

/-! ### the loop -/
def sloopO (i : Nat) (mb : MS) : List (List PyData) → MS
  | [] => snext
  | xs :: r => fun δ => match mb (δ.set i (.own (.b (.lst xs)))) with
    | some (.nx δ2) => sloopO i mb r δ2
    | z => z
def sforR (i : Nat) (mss : M (List (List PyData))) (mb : MS) : MS := sbind mss fun xss => sloopO i mb xss
theorem pd_forR (i : Nat) (hp : PassesOwn (model X.prog X.w) X.A X.env X.xe) (hc : X.calm = true) (hN : X.N.Nodup) (hK : C.K = X.K) (hlo : C.vs0.length ≤ i) (he : PE X iter (tLO C Wx mss)) (hb : PBd X C Wx body mb) (hi : X.N[i]? = some x := by rfl) (hx : Loc X.env.scope x := by first | exact Or.inl rfl | exact Or.inr rfl)
    (hf : X.fn x = true ∨ X.env.scope.names.lookup x = some .local := by first | exact .inl rfl | exact .inr rfl) (hs : ∀ x, foldedSetIterable iter X.env x = pure x := by intro _; rfl) : PSd X C Wx (.For (.Name x py) iter body [] pos) (sforR i mss mb) := by
  have h0 := ps_for (pos := pos) hp hc (pi_list (tg := .Name x py) he) (pg_name (pos := py) hN hi hx hf) hb hs
  refine ⟨fun pins s σ H D I q => h0.run pins s σ H D I ?_⟩
  have hlen : σ.length = X.N.length := I.len
  have hil : i < X.N.length := (List.getElem?_eq_some_iff.mp hi).1
  obtain ⟨δ, w, F, S, h⟩ := q
  unfold tFor iList tLO
  refine ⟨δ, w, F, S, tAt_mono (tSt_bind0 h) fun xss δ1 w1 F1 H1 S1 g1 h1 a va ps hfr hv ha hna hcv => ?_⟩
  have hl := cvs_len hcv
  rw [List.length_map] at hl
  refine ⟨a, rfl, ⟨va, .inl (.inl hv)⟩, for_list (K := X.K) (a := a) (xs := va) (fun j σ' H' => ∃ δ' w' F' ps', C.ok F' H' σ' δ' w' ∧ Step w.has F H F' H' w'.has ∧ H' a = some (.lst va) ∧ ¬ w'.has a ∧ a ∉ ps' ∧ (∀ p ∈ ps', H p = none) ∧ CvsOk C.K F' H' w' (va.drop j) ((xss.drop j).map .o) ps' ∧
    tStAt C Wx (sloopO i mb (xss.drop j)) D δ' w F H) ⟨δ1, w1, F1, ps, S1, g1, hv, hna, ha, fun p hp => hfr p (List.mem_cons_of_mem _ hp), hcv, h1⟩ (fun j σ' H' _ ⟨_, _, _, _, _, _, z, _⟩ => .inl (.inl z)) ?_ ?_⟩
  · rintro j y σ2 H2 hj ⟨δ2, w2, F2, ps2, S2, g2, hv2, na2, ha2, hf2, hc2, k2⟩
    have hjl : j < va.length := (List.getElem?_eq_some_iff.mp hj).1
    have e1 : va.drop j = y :: va.drop (j + 1) := by
      rw [List.drop_eq_getElem_cons hjl]
      rw [List.getElem?_eq_getElem hjl] at hj
      rw [Option.some.inj hj]
    have hjx : j < xss.length := by omega
    have e2 : xss.drop j = xss[j] :: xss.drop (j + 1) := List.drop_eq_getElem_cons hjx
    rw [e1, e2, List.map_cons] at hc2
    rw [e2] at k2
    generalize xss[j] = xs at *
    cases hc2 with
    | @o p vp _ _ _ psr p1 p2 p3 p4 p5 p6 =>
      obtain ⟨w3, S3, hw3⟩ : ∃ w3, C.ok F2 H2 (σ2.set i (some (.ref p))) (δ2.set i (.own (.b (.lst xs)))) w3 ∧ ∀ q, w3.has q → q = p ∨ w2.has q := by
        by_cases hl2 : i < δ2.length
        · refine ⟨_, S2.setO i hlo hl2 (o := .b (.lst xs)) (.b ⟨_, p1, vp, rfl, p4⟩) (fun b hb => by rw [List.mem_singleton.mp hb]; exact p2) (fun b hb => by rw [List.mem_singleton.mp hb]; exact p3), fun q hq => ?_⟩
          rcases Wn.put_has hq with hq | hq
          · exact .inl (List.mem_singleton.mp hq)
          · exact .inr hq
        · refine ⟨w2, ?_, fun q hq => .inr hq⟩
          have hs2 : σ2.length ≤ i := by have := S2.len; omega
          rw [List.set_eq_of_length_le (l := δ2) (by omega), List.set_eq_of_length_le (l := σ2) hs2]
          exact S2
      have g3 : Step w.has F H F2 H2 w3.has := ⟨g2.ff, g2.keep, g2.live, g2.prot, fun b hb => by
        rcases hw3 b hb with rfl | hb
        · exact .inr (hf2 _ List.mem_cons_self)
        · exact g2.ownd b hb⟩
      have c3 : CvsOk C.K F2 H2 w3 (va.drop (j + 1)) ((xss.drop (j + 1)).map .o) psr := p6.put fun q hq => by
        rcases hw3 q hq with rfl | hq
        · exact .inr p5
        · exact .inl hq
      have na3 : ¬ w3.has a := fun z => by
        rcases hw3 a z with z | z
        · exact ha2 (by rw [z]; exact List.mem_cons_self)
        · exact na2 z
      refine ⟨_, _, _, S3, ?_⟩
      simp only [tStAt, sloopO] at k2 ⊢
      cases em : mb (δ2.set i (.own (.b (.lst xs)))) with
      | none => rw [em] at k2; exact k2
      | some r =>
        rw [em] at k2
        cases r with
        | nx δ4 =>
          intro σ4 w4 F4 H4 S4 g4
          exact ⟨δ4, w4, F4, psr, S4, g3.trans g4, g4.keep a _ na3 hv2 (fun ps z => by cases z), (fun z => (g4.ownd a z).elim na3 fun q => by rw [hv2] at q; cases q), fun z => ha2 (List.mem_cons_of_mem _ z), fun q hq => hf2 q (List.mem_cons_of_mem _ hq), c3.step g4, k2⟩
        | rt d δ4 => exact fun v σ4 w4 F4 H4 S4 g4 hd => k2 v σ4 w4 F4 H4 S4 (g3.trans g4) hd
        | ex c δ4 => exact fun σ4 w4 F4 H4 S4 g4 => k2 σ4 w4 F4 H4 S4 (g3.trans g4)
  · rintro σ2 H2 ⟨δ2, w2, F2, ps2, S2, g2, hv2, na2, ha2, hf2, hc2, k2⟩
    rw [List.drop_of_length_le (by omega)] at k2
    exact k2 σ2 w2 F2 H2 S2 g2
end
end
end RH

/-! The data layer, part 18: walks over a list while an exception is handled. -/
namespace RH
open PySem PySem.Spec L2 PyProof.Rows
open HandSPX HotX L2H
section
variable {prog : Program} {w : World} {A : Around} {E : Value → Shared → Prop} {s : Shared}
theorem pyNext_list_end_hot {it l x1 : Addr} {i : Nat} {items : Array Value} {Q : Option Value → Shared → Prop} (hot : HotAt A x1 s.heap) (hx1 : x1 ≠ it)
    (hit : s.heap.IsListIter it l i) (hl : s.heap.IsList l items) (hx : items[i]? = none)
    (hQ : ∀ h', (∀ b o, b ≠ it → s.heap.get? b = some o → h'.get? b = some o) → Q none { s with heap := h' }) : wpAny (model prog w) A (pyNext (.ref it)) Q E s := by
  obtain ⟨o, ho, hc, hd⟩ := id hit
  obtain ⟨ol, hol, _, nl, hdl⟩ := hl
  obtain ⟨hh, o1, vs1, h1, d1, c1⟩ := hot
  unfold pyNext
  refine wpAny_bind (wpAny_attempt (wpAny_callSpecial?_slot (name := Str.ofString "__next__") hit.typeIs slot_listiter_next
    (wpAny_call_entry slot_listiter_next hit.typeIs entry_listiter_next ?_ (args_listiter_next _))))
  show wpAny _ _ (field (.ref it) 0 >>= _) _ _ s
  refine wpAny_bind (wpAny_field ho hd (x := .ref l) rfl ?_)
  show wpAny _ _ (if (Value.ref l == Value.none) = true then _ else _) _ _ s
  rw [if_neg (show ¬ ((Value.ref l == Value.none) = true) from Bool.false_ne_true)]
  show wpAny _ _ (field (.ref it) 1 >>= _) _ _ s
  refine wpAny_bind (wpAny_field ho hd (x := .int i 0) rfl ?_)
  show wpAny _ _ (seqItems? (.ref l) >>= _) _ _ s
  refine wpAny_bind (wpAny_seqItems hol hdl ?_)
  simp only [Int.toNat_natCast, hx]
  refine wpAny_bind (wpAny_rule (wpAny_bind (wpAny_setField ho hd (by simp) ?_)))
  show wpAny _ _ (newExc (.type "StopIteration") [] >>= _) _ _ _
  refine wpAny_bind ?_
  simp only [newExc, newTuple]
  refine wpAny_bind (wpAny_newObj_type ?_ (by size_fits))
  refine wpAny_bind (m := firstArgMember _ _) (wpAny_of_eq (a := Value.none) (by first | rfl | (simp only [firstArgMember]; rfl)) ?_)
  refine wpAny_newObj_type ?_ (by size_fits)
  have k1 : ∀ b ob, b ≠ it → s.heap.get? b = some ob → ((s.heap.update it (Obj.mapFields (·.setIfInBounds 0 Value.none))).get? b = some ob) := fun b ob hb e => (Heap.get?_update_other _ _ (Ne.symm hb)).trans e
  refine raiseNew_hot ⟨hh, o1, vs1, Heap.get?_push_of_some _ (Heap.get?_push_of_some _ (k1 _ _ hx1 h1)), d1, c1⟩ (Nat.ne_of_lt (Heap.lt_size (Heap.get?_push_of_some _ (k1 _ _ hx1 h1)))) (Heap.get?_push_size _ rfl) rfl (by first | (simp; done) | (simp; omega) | (simp only [Array.size_append]; simp; omega)) ?_
  refine wpAny_bind (wpAny_isInstance (T := "StopIteration") (b := true) ⟨_, Heap.get?_update_self _ (Heap.get?_push_size _ rfl) rfl, rfl⟩ isSubtype_stop ?_)
  refine wpAny_pure (hQ _ fun b ob hb e => ?_)
  rw [Heap.get?_update_other _ _ (Nat.ne_of_gt (Heap.lt_size (Heap.get?_push_of_some _ (k1 b ob hb e))))]
  exact Heap.get?_push_of_some _ (Heap.get?_push_of_some _ (k1 b ob hb e))
end
/-- an iterator's turns where an exception may be handled -/
structure TurnB (P : Program) (w : World) (K : PySem.W.Frag) (tg : Expr) (J : It) (fp : List Addr) (it : Addr) (tn : Nat → Heap → Prop) : Prop where
  mem : it ∈ fp
  obj : ∀ i h, tn i h → ∀ b ∈ fp, ∃ o, h.get? b = some o ∧ ∀ v, o.data ≠ .cell v
  keep : ∀ i h h', tn i h → (∀ b ∈ fp, ∀ o, h.get? b = some o → h'.get? b = some o) → tn i h'
  item : ∀ (X : Cx), X.prog = P → X.w = w → X.K = K → ∀ (i : Nat) (pins : List (Addr × Obj)) (s : Shared) (σ : L2.St) (H : Hp) (E : Value → Shared → Prop), Inv X pins σ H s → (∀ b ∈ fp, FpOk X pins H b) → tn i s.heap → J.go i H →
    wpAny (model P w) X.A (pyNext (.ref it)) (fun r s1 => ∃ u, r = some u ∧
      wpAny (model P w) X.A (letOwnedTupleGo tg (.ref it) u) (fun _ s2 => ∃ x H', Inv X pins σ H' s2 ∧ RelV x u ∧ J.yld i H x H' ∧ tn (i + 1) s2.heap ∧ ∀ b ∈ fp, H' b = none) E s1) E s
  done : ∀ (X : Cx), X.prog = P → X.w = w → X.K = K → ∀ (i : Nat) (pins : List (Addr × Obj)) (s : Shared) (σ : L2.St) (H : Hp) (E : Value → Shared → Prop), (∃ x1, x1 ∉ fp ∧ HotAt X.A x1 s.heap) → Inv X pins σ H s → (∀ b ∈ fp, FpOk X pins H b) → tn i s.heap → J.stop i H →
    wpAny (model P w) X.A (pyNext (.ref it)) (fun r s1 => r = none ∧ Inv X pins σ H s1) E s
  self : ∀ (A : Around) (i : Nat) (s : Shared) (Q : Value → Shared → Prop) (E : Value → Shared → Prop), tn i s.heap → Q (.ref it) s → wpAny (model P w) A (pyIter (.ref it)) Q E s
theorem turn_listB {P : Program} {w : World} {K : PySem.W.Frag} {tg : Expr} (a it : Addr) : TurnB P w K tg (Itl K a) [it] it (fun i h => h.IsListIter it a i) where
  mem := by simp
  obj := fun i h st b hb => by
    have e : b = it := by simpa using hb
    subst e
    obtain ⟨o, e, c, d⟩ := st
    exact ⟨o, e, fun v z => by rw [d] at z; cases z⟩
  keep := fun i h h' st k => st.at fun o e => k it (by simp) o e
  item := by
    intro X hP hw hK i pins s σ H E I hf st hg
    subst hP hw hK
    obtain ⟨xs, x, hq, hx⟩ := hg
    obtain ⟨its, rv, p, hz⟩ := I.list hq
    obtain ⟨u, hu, ru⟩ := rv.get hx
    obtain ⟨f0, f1, f2, f3, f4, f5⟩ := hf it (by simp)
    refine wpAny_pyNext_list_item st p.isList (x := u) (by simpa using hu) fun h' st' sb => ?_
    have I1 : Inv X pins σ H { s with heap := h' } := I.turned (t' := s.toks) (fun b o hb e => (sb.2 b hb).trans e) f0 f1 f3 f4 f5
    obtain ⟨o, e, c, d⟩ := id st'
    exact ⟨u, rfl, go_of (s := { s with heap := h' }) e c d (by decide) ⟨x, H, I1, ru, ⟨rfl, fun ys hy => by rw [I.list_inj hy hq]; exact hx⟩, st', fun b hb => (hf b hb).1⟩⟩
  done := by
    intro X hP hw hK i pins s σ H E hot I hf st hg
    subst hP hw hK
    obtain ⟨xs, hq, hx⟩ := hg
    obtain ⟨its, rv, p, hz⟩ := I.list hq
    obtain ⟨f0, f1, f2, f3, f4, f5⟩ := hf it (by simp)
    have hl := rv.length
    obtain ⟨x1, hn, hot⟩ := hot
    exact pyNext_list_end_hot hot (fun z => hn (by rw [z]; simp)) st p.isList (by simp; omega) fun h' eb => ⟨rfl, I.turned (t' := s.toks) (fun b o hb e => eb b o hb e) f0 f1 f3 f4 f5⟩
  self := fun _ _ _ _ _ st h => wpAny_pyIter_listiter st h
def PIEB (X : Cx) (pins : List (Addr × Obj)) (σ : L2.St) (tg : Expr) (R : It → Hp → Prop) (itv : Value) (s2 : Shared) : Prop :=
  ∃ (it : Addr) (fp : List Addr) (tn : Nat → Heap → Prop) (J : It) (H' : Hp), itv = .ref it ∧ Inv X pins σ H' s2 ∧ TurnB X.prog X.w X.K tg J fp it tn ∧ tn 0 s2.heap ∧ (∀ b ∈ fp, FpOk X pins H' b) ∧ R J H'
structure PIB (X : Cx) (tg iter : Expr) (wi : TI) : Prop where
  run : ∀ (pins : List (Addr × Obj)) (s : Shared) (σ : L2.St) (H : Hp) (R : It → Hp → Prop), Inv X pins σ H s → wi σ H R →
    wpAny (model X.prog X.w) X.A (eval iter X.env) (fun v s1 => wpAny (model X.prog X.w) X.A (pyIter v) (PIEB X pins σ tg R) X.xe s1) X.xe s
section
variable {X : Cx} {tg : Expr}
theorem pi_listB {l : Expr} {tl : TE} (hl : PE X l tl) : PIB X tg l (iList X.K tl) := by
  refine ⟨fun pins s σ H R I h => ?_⟩
  refine thn (hl.run pins s σ H _ I h) fun v s1 ⟨x, H1, I1, r1, q1⟩ => ?_
  obtain ⟨a, e, ⟨xs, hq⟩, q⟩ := q1
  subst e
  cases r1
  obtain ⟨its, rv, p, hz⟩ := I1.list hq
  refine wpAny_pyIter_list p.isList ?_
  refine ⟨s1.heap.objs.size, [s1.heap.objs.size], _, _, H1, rfl, I1.kept (t' := s1.toks) fun b o e => Heap.get?_push_of_some _ e, turn_listB a _, ⟨_, Heap.get?_push_size _ rfl, rfl, rfl⟩, fun b hb => ?_, q⟩
  have e : b = s1.heap.objs.size := by simpa using hb
  subst e
  exact I1.fpOk (Nat.le_refl _) (I1.hok.fresh (Nat.le_refl _))
theorem lc_coreH {pins : List (Addr × Obj)} {s : Shared} {σ : L2.St} {H : Hp} {Q : VK} {elt tg iter : Expr} {ifs : List Expr} {scope : Scope} {own : List (Str × Nat)} {pos pos' : Pos} {wi : TI} {g : TG} {tt : TT} {te : TE} {use : Option (Value → Sem Unit)} {Qf : Value → Shared → Prop}
    (hc : HotC X) (hN : X.N.Nodup) (I : Inv X pins σ H s) (hi : PIB X tg iter wi) (ok : BlkOk X.N X.env.scope scope own)
    (hg : ∀ (s : Shared) (H : Hp) (C : Addr) (cl : List (Str × Addr)) (fp : List Addr), PG (X.blk s H scope (compEnvC scope cl C X.env) fp) tg g) (ht : ∀ (s : Shared) (H : Hp) (C : Addr) (cl : List (Str × Addr)) (fp : List Addr), PTs (X.blk s H scope (compEnvC scope cl C X.env) fp) ifs tt)
    (he : ∀ (s : Shared) (H : Hp) (C : Addr) (cl : List (Str × Addr)) (fp : List Addr), PE (X.blk s H scope (compEnvC scope cl C X.env) fp) elt te) (hs : ∀ x, foldedSetIterable iter X.env x = pure x)
    (h : tLc wi g tt te (own.map (·.2)) σ H Q)
    (hRR : ∀ D C s' m H', Inv X pins σ H' s' → Q (.ref D) H' → s'.heap.Ns C m → FpOk X pins H' C → compPost (model X.prog X.w) X.A X.xe use Qf (.ref D) C (.ok .next) s') :
    wpAny (model X.prog X.w) X.A (comprehension (.ListComp elt [⟨tg, iter, ifs, 0⟩] scope pos) scope X.env pos' (newList []) false (eval iter X.env) use) Qf X.xe s := by
  have hfree : ∀ y ∈ scope.names, y.2 = .free → ∃ c, X.env.cells.lookup y.1 = some c := fun y hy e => by
    rcases ok.free y hy e with k | k
    · exact I.ok.has _ (.inl k)
    · exact I.ok.has _ (.inr k)
  refine wpAny_comprehension_free (use := use) rfl hs (closure_ok hfree) ok.kind (fun y hy e => by rw [ok.uniq y hy, e])
    (thn (hi.run pins s σ H _ I h) fun xv s1 hx => thn hx fun itv s2 h2 => ?_)
  obtain ⟨it, fp, tn, J, H2, e, I2, T, st2, f2, q⟩ := h2
  subst e
  refine wpAny_newObj_type (newEnv_comp ?_) (by show 0 ≤ sizeLine; decide)
  generalize hD : s2.heap.objs.size = D
  have hDn : H2 D = none := I2.hok.fresh (Nat.le_of_eq hD)
  obtain ⟨W, ⟨m0, w0⟩, turn⟩ := q D hDn
  -- the new list
  generalize hs3 : ({ s2 with heap := s2.heap.push { cls := .type "list", data := .seq ([] : List Value).toArray } } : Shared) = s3
  have I3 : Inv X pins σ (upd H2 D (.lst [])) s3 := by
    rw [← hs3]
    refine I2.laid (t' := s2.toks) (fun b o e => Heap.get?_push_of_some _ e) (Nat.le_of_eq hD) ⟨Nat.zero_le _, [], 0, .nil, ?_⟩
    rw [← hD]
    exact Heap.get?_push_size _ rfl
  have h3 : s3.heap = s2.heap.push { cls := .type "list", data := .seq ([] : List Value).toArray } := by rw [← hs3]
  have sz : ∀ b ∈ fp, b < s2.heap.objs.size := fun b hb => by
    obtain ⟨o, e, _⟩ := T.obj _ _ st2 b hb
    exact Heap.lt_size e
  have f3 : ∀ b ∈ fp, FpOk X pins (upd H2 D (.lst [])) b ∧ b < s3.heap.objs.size := fun b hb => by
    have hlt := sz b hb
    refine ⟨⟨?_, (f2 b hb).2⟩, by rw [h3, Heap.size_push]; exact Nat.lt_succ_of_lt hlt⟩
    rw [upd_ne (by rw [← hD]; exact Nat.ne_of_lt hlt)]
    exact (f2 b hb).1
  have st3 : tn 0 s3.heap := T.keep _ _ _ st2 fun b _ o e => by rw [h3]; exact Heap.get?_push_of_some _ e
  have I4 := block_start I3 ok hN f3
  have pg := hg s3 (upd H2 D (.lst [])) s3.heap.objs.size (cellsFrom (s3.heap.objs.size + 1) scope.names (cloFrom X.env.cells scope.names [])) fp
  have pt := ht s3 (upd H2 D (.lst [])) s3.heap.objs.size (cellsFrom (s3.heap.objs.size + 1) scope.names (cloFrom X.env.cells scope.names [])) fp
  have pe := he s3 (upd H2 D (.lst [])) s3.heap.objs.size (cellsFrom (s3.heap.objs.size + 1) scope.names (cloFrom X.env.cells scope.names [])) fp
  show codeAny _ _ (.compStart (.ListComp elt [⟨tg, iter, ifs, 0⟩] scope pos) 0 (.ref it) (.ref D) (compEnvC scope (cellsFrom (s3.heap.objs.size + 1) scope.names (cloFrom X.env.cells scope.names [])) s3.heap.objs.size X.env)) (compPost (model X.prog X.w) X.A X.xe use Qf (.ref D) s3.heap.objs.size) { s3 with heap := pushCells (s3.heap.push { cls := .type "dict", data := .dict #[] }) scope.names }
  have nfp : ∀ b ∈ fp, (upd H2 D (.lst [])) b = none := fun b hb => (f3 b hb).1.1
  generalize hce : compEnvC scope (cellsFrom (s3.heap.objs.size + 1) scope.names (cloFrom X.env.cells scope.names [])) s3.heap.objs.size X.env = ce at I4 pg pt pe ⊢
  have cL : ce.locals = s3.heap.objs.size := by subst hce; rfl
  generalize hH3 : upd H2 D (.lst []) = H3 at I3 I4 pg pt pe w0 nfp f3
  generalize hs4 : ({ s3 with heap := pushCells (s3.heap.push { cls := .type "dict", data := .dict #[] }) scope.names } : Shared) = s4 at I4 ⊢
  have st4 : tn 0 s4.heap := T.keep _ _ _ st3 fun b _ o e => by rw [← hs4]; exact pushCells_keeps _ _ _ _ (Heap.get?_push_of_some _ e)
  have stat : ∀ {σ' : L2.St} {H' : Hp} {s' : Shared}, Inv (X.blk s3 H3 scope ce fp) [] σ' H' s' → (∀ b ∈ fp, H' b = none) → ∀ b ∈ fp, FpOk (X.blk s3 H3 scope ce fp) [] H' b := fun {σ' H' s'} I' hn b hb =>
    ⟨hn b hb, (I'.ok.exf b hb).1, I'.ok.exfs b hb, .inl hb, fun x c e => (I'.ok.exf b hb).2 x c e, fun p hp => absurd (show p ∈ ([] : List (Addr × Obj)) ++ [] from hp) (by simp)⟩
  have loop : codeAny (model X.prog X.w) X.A (.compLoop (.ListComp elt [⟨tg, iter, ifs, 0⟩] scope pos) 0 (.ref it) (.ref D) ce) (compPost (model X.prog X.w) X.A X.xe use Qf (.ref D) s3.heap.objs.size) s4 := by
    refine compLoop_any (fun n s' => ∃ i H', Inv (X.blk s3 H3 scope ce fp) [] (wipe σ (own.map (·.2))) H' s' ∧ tn i s'.heap ∧ (∀ b ∈ fp, H' b = none) ∧ W i n H') ?_ m0 ⟨0, H3, I4, st4, nfp, w0⟩
    rintro n s5 ⟨i, H5, I5, st5, n5, w5⟩
    rcases turn i n H5 w5 with ⟨stop, qq⟩ | ⟨go, Nx, hNx, step⟩
    · have hot : ∃ x1, x1 ∉ fp ∧ HotAt X.A x1 s5.heap := by
        obtain ⟨p, ⟨hh, v1, e1, c1⟩, hp⟩ := hc
        obtain ⟨g1, g2, g3, g4, g5⟩ := I3.pin p (List.mem_append_left _ hp)
        have nf : p.1 ∉ fp := fun z => (f3 p.1 z).1.2.2.2.2.2 p (List.mem_append_left _ hp) rfl
        obtain ⟨sl, e2⟩ := I5.base.any g1 g2 nf
        exact ⟨p.1, nf, hh, _, v1, e2, e1, c1⟩
      have td := T.done (X.blk s3 H3 scope ce fp) rfl rfl rfl i [] s5 _ H5 (fun _ _ => False) hot I5 (stat I5 n5) st5 stop
      refine thnF td fun r s6 ⟨hr, I6⟩ => ?_
      subst hr
      -- back in the def's context
      have I7 : Inv X pins σ H5 s6 := I3.call' (ch := fp) I6.os I6.base I6.hok I6.bare fun b hb => ⟨(f3 b hb).1.2.2.2.1, (f3 b hb).1.2.1, (f3 b hb).1.2.2.2.2.1, (f3 b hb).1.2.2.2.2.2⟩
      have nC : H5 s3.heap.objs.size = none := by
        have z : H5 ce.locals = none := I6.free
        rw [cL] at z
        exact z
      obtain ⟨m, hn, _⟩ := I6.loc
      have hn : s6.heap.Ns ce.locals m := hn
      rw [cL] at hn
      exact hRR D s3.heap.objs.size s6 m H5 I7 qq hn (I3.fpOk (Nat.le_refl _) nC)
    · have ti := T.item (X.blk s3 H3 scope ce fp) rfl rfl rfl i [] s5 _ H5 (fun _ _ => False) I5 (stat I5 n5) st5 go
      refine thnF ti fun r s6 ⟨u, hr, h6⟩ => ?_
      subst hr
      refine thnF h6 fun _ s7 ⟨x, H7, I7, r7, y7, st7, n7⟩ => ?_
      have I7' := I7.pinned (stat I7 n7) (T.obj _ _ st7)
      refine thnF (pg.run _ s7 _ H7 x u _ I7' r7 (step x H7 y7)) fun _ s8 ⟨σ8, H8, I8, hw8, q8⟩ => ?_
      refine thnF (pt.run _ s8 σ8 H8 _ I8 q8) fun b s9 ⟨H9, I9, q9⟩ => ?_
      -- the turn's end
      have fin : ∀ {s' : Shared} {H' : Hp}, Inv (X.blk s3 H3 scope ce fp) ([] ++ pinsAt fp s7.heap) σ8 H' s' → Nx H' → ∃ m, m < n ∧ ∃ i H', Inv (X.blk s3 H3 scope ce fp) [] (wipe σ (own.map (·.2))) H' s' ∧ tn i s'.heap ∧ (∀ b ∈ fp, H' b = none) ∧ W i m H' := fun {s' H'} I' nx => by
        obtain ⟨m', hm, w'⟩ := hNx H' nx
        have pin' : ∀ b ∈ fp, ∀ o, s7.heap.get? b = some o → s'.heap.get? b = some o ∧ H' b = none := fun b hb o e =>
          let z := I'.pin (b, o) (List.mem_append_right _ (List.mem_append_right _ (mem_pinsAt hb e)))
          ⟨z.1, z.2.1⟩
        have hl : (wipe σ (own.map (·.2))).length = σ8.length := by rw [← hw8, wipe_length]
        refine ⟨m', hm, i + 1, H', (I'.unpinned (pins := [])).weak hl (fun j v e => ?_), T.keep _ _ _ st7 fun b hb o e => (pin' b hb o e).1, fun b hb => ?_, w'⟩
        · rw [← hw8] at e
          exact (wipe_some e).1
        · obtain ⟨o, e, _⟩ := T.obj _ _ st7 b hb
          exact (pin' b hb o e).2
      cases b with
      | false =>
        simp only [Bool.false_eq_true, if_false] at q9 ⊢
        exact fin I9 q9
      | true =>
        simp only [if_true] at q9 ⊢
        refine thnF (pe.run _ s9 σ8 H9 _ I9 q9) fun z s10 ⟨yv, H10, I10, r10, acc, hD10, hz10, nx⟩ => ?_
        exact app_ok (X := X.blk s3 H3 scope ce fp) I10 hD10 hz10 r10 fun s11 I11 => fin I11 nx
  exact codeAny_compStart_list loop (T.self X.A 0 _ _ _ st4 loop)

theorem pe_lcH {elt tg iter : Expr} {ifs : List Expr} {scope : Scope} {own : List (Str × Nat)} {pos : Pos} {wi : TI} {g : TG} {tt : TT} {te : TE} (hc : HotC X) (hN : X.N.Nodup) (hi : PIB X tg iter wi) (ok : BlkOk X.N X.env.scope scope own)
    (hg : ∀ (s : Shared) (H : Hp) (C : Addr) (cl : List (Str × Addr)) (fp : List Addr), PG (X.blk s H scope (compEnvC scope cl C X.env) fp) tg g) (ht : ∀ (s : Shared) (H : Hp) (C : Addr) (cl : List (Str × Addr)) (fp : List Addr), PTs (X.blk s H scope (compEnvC scope cl C X.env) fp) ifs tt)
    (he : ∀ (s : Shared) (H : Hp) (C : Addr) (cl : List (Str × Addr)) (fp : List Addr), PE (X.blk s H scope (compEnvC scope cl C X.env) fp) elt te) (hs : ∀ x, foldedSetIterable iter X.env x = pure x := by intro _; rfl) :
    PE X (.ListComp elt [⟨tg, iter, ifs, 0⟩] scope pos) (tLc wi g tt te (own.map (·.2))) := by
  refine ⟨fun pins s σ H Q I h => ?_⟩
  rw [eval_ListComp]
  refine lc_coreH hc hN I hi ok hg ht he hs h fun D C s' m H' I' q hn f => ⟨m, hn, fun h'' sb => ?_⟩
  obtain ⟨f0, f1, f2, f3, f4, f5⟩ := f
  exact ⟨.ref D, H', I'.turned (t' := s'.toks) (fun b o hb e => (sb.2 b hb).trans e) f0 f1 f3 f4 f5, rfl, q⟩
end
/-! ### sum -/
section
variable {prog : Program} {w : World} {A : Around} {E : Value → Shared → Prop} {s : Shared}
theorem walks_listH {x1 : Addr} {o1 : Obj} {vs1 : Array Value} (hh : A.handled = some (.ref x1)) (d1 : o1.data = .fields vs1) (c1 : vs1[2]? = some .none) (I ax : Addr) (hne : ax ≠ I) (hx1 : x1 ≠ I) (items : Array Value) :
    Walks prog w A I [I, ax, x1] [I] items.size (fun i v => items[i]? = some v) (fun i h => h.IsListIter I ax i ∧ h.IsList ax items ∧ h.get? x1 = some o1) where
  sub := fun b hb => by simp at hb; simp [hb]
  frame := fun _ _ _ st hk => ⟨st.1.at fun o e => hk I (by simp) o e, st.2.1.at fun o e => hk ax (by simp) o e, hk x1 (by simp) _ st.2.2⟩
  item := fun i s Q E hi st hQ => by
    refine wpAny_pyNext_list_item st.1 st.2.1 (x := items[i]) (by simp [hi]) fun h' hit' hs' => ?_
    exact hQ _ h' s.toks (by simp [hi]) ⟨hit', st.2.1.extBut hs'.extBut hne, hs'.extBut x1 o1 hx1 st.2.2⟩ fun b o hb e => hs'.extBut b o (fun h => hb (by simp [h])) e
  done := fun s Q E st hQ => pyNext_list_end_hot ⟨hh, o1, vs1, st.2.2, d1, c1⟩ hx1 st.1 st.2.1 (by simp) fun h' he' => hQ h' s.toks fun b o hb e => he' b o (fun h => hb (by simp [h])) e
  self := fun _ _ _ _ st hQ => wpAny_pyIter_listiter st.1 hQ
end
section
variable {X : Cx}
theorem cr_sumH (hc : HotC X) : CallR X (.builtin "sum") (rSum X.K) := by
  intro pins s σ H vs us Q I r h
  obtain ⟨a, ns, rfl, hs, q⟩ := h
  obtain ⟨its, rv, hl, _⟩ := I.list hs
  rw [Vals.ref1 r]
  obtain ⟨x1, hh, o1, vs1, g1, d1, c1⟩ := hc.at I
  obtain ⟨xs, e⟩ := rv.ints.allInts.items
  have hn : numsOf (intItems xs).toList = ns := by rw [← e]; exact rv.ints.numsOf
  rw [nums_intItems] at hn
  have hl' := hl.isList
  rw [e] at hl'
  refine call_sum_walkG (iter_intList hl' fun s₂ e2 st hfp hlI => ?_)
  subst e2
  have hx : x1 ≠ s.heap.objs.size := Nat.ne_of_lt (Heap.lt_size g1)
  refine ⟨_, _, _, _, _, _, numAt xs, rfl, walks_listH (A := X.A.in1) hh d1 c1 _ a hlI hx (intItems xs), ⟨st.1, st.2, Heap.get?_push_of_some _ g1⟩, fun b hb => ?_, (fun _ _ => intItems_at), fun h' tk t' hk => ?_⟩
  · rcases List.mem_cons.mp hb with rfl | hb
    · exact hfp _ (by simp)
    · rcases List.mem_cons.mp hb with rfl | hb
      · exact hfp _ (by simp)
      · rw [List.mem_singleton.mp hb]
        exact Heap.lt_size (Heap.get?_push_of_some _ g1)
  · have hq : (preSum (numAt xs) (intItems xs).size) = ns.sum := by
      have hz : (intItems xs).size = xs.size := by simp [intItems]
      rw [hz, preSum_eq, List.take_of_length_le (by simp), hn]
    exact ⟨.int _, H, I.kept (old_kept hk), ⟨t', by rw [hq]⟩, q⟩
end
end RH

/-! The data layer, part 19: a lambda handed to a def that calls it and tells what it raised. -/
namespace RH
open PySem PySem.Spec PyProof.Rows L2 LamX HotX L2H
abbrev WX := L2.WX
/-- the context of the lambda's body, exceptions told with their context -/
def lamCxN (X : Cx) (A : Around) (outer : List Env) (s : Shared) (H : Hp) (E : XK) (scope : Scope) (f c' : Addr) : Cx :=
  (LamX.lamCx X A outer s H E scope f c').tr ([] ++ []) (fun e s' => wpAny (model X.prog X.w) (A.deeper (lamEnv X scope s.heap.objs.size f c')) (leaving (lamEnv X scope s.heap.objs.size f c') e) (fun _ s'' => L2N.CX X.prog X.w outer H s E e s'') (fun e' s'' => L2N.CX X.prog X.w outer H s E e' s'') s')
section
variable {X : Cx} {pins : List (Addr × Obj)} {σ : L2.St} {H HZ : Hp} {s s1 : Shared}
/-- the lambda is made: its code object is new, or found in the table -/
theorem lam_make3 {T : List (Addr × Str)} {c P : Addr} {params : Arguments} {body : Expr} {scope : Scope} {pos : Pos} {E : Value → Shared → Prop} {Q : Value → Shared → Prop} (I : Inv X pins σ H s) (TB : TabB X.base X.mg c P) (hcode : X.env.code = .ref c)
    (hm : (P, X.env.qual ++ "<lambda>") ∈ T) (hu : ∀ p ∈ T, p.1 = P → p.2 = X.env.qual ++ "<lambda>") (hT : Tabs T H) (hdef : defaultsOf params X.env = ([], [])) (hfree : ∀ y ∈ scope.names, y.2 = .free → ∃ c, X.env.cells.lookup y.1 = some c)
    (h : ∀ (f c' : Addr) (pm ctv : Value) (H1 : Hp) (s' : Shared), Inv X pins σ H1 s' → ExtN H H1 → (∀ b, H b ≠ none → H1 b ≠ none) → Tabs T H1 →
      s'.heap.get? f = some (PySem.W.kla_obj "<lambda>" (X.env.qual ++ "<lambda>") params body scope (cloFrom X.env.cells scope.names []) pm c' ctv) → H1 f = none → f ∉ frs X.stack → H1 c' = some (CodeO c' (X.env.qual ++ "<lambda>")) → Q (.ref f) s') :
    wpAny (model X.prog X.w) X.A (eval (.Lambda params body scope pos) X.env) Q E s := by
  obtain ⟨ps, hP, ht, ha⟩ := hT _ hm
  refine PySem.W.kla_eval hdef ?_
  have bP : s.heap.BuiltinsAt X.mg P := TB.bm.keeps I.bk
  have hP' : s.heap.get? P = some { cls := .none, data := .fields ps } := I.hok P _ hP
  have nofr : ∀ f, s.heap.objs.size ≤ f → f ∉ frs X.stack := fun f hf z => by
    rcases List.mem_cons.mp (I.stkSub _ z) with e | e
    · have h1 := I.lt
      rw [← e] at h1
      exact Nat.lt_irrefl _ (Nat.lt_of_lt_of_le h1 hf)
    · exact I.nofs hf e
  cases hc : codeAmong pos ps.toList with
  | none =>
    refine PySem.W.kla_makeFunction (mg := X.mg) (c := c) (P := P) (ps := ps) (closure_ok hfree) I.ok.glob (I.mod.glob.keeps I.bk) hcode (TB.code.keeps I.bk) hP' ht hc TB.gP bP fun c' ctv h' tk hx hge hlt hrec htb => ?_
    obtain ⟨c2, oc, vs, t, e2, hoc, hd, hv⟩ := hrec
    cases e2
    have hsz : s.heap.objs.size ≤ h'.objs.size := Nat.le_trans hge (Nat.le_of_lt hlt)
    have nC : H c' = none := I.hok.fresh hge
    have I1 := inv_table (t' := tk) (more := #[rawInt pos.line, rawInt pos.col, .ref c']) (h' := h'.push (PySem.W.kla_obj "<lambda>" (X.env.qual ++ "<lambda>") params body scope (cloFrom X.env.cells scope.names []) ((X.mg "__name__").getD .none) c' ctv)) I hP
      (fun b o hb e => Heap.get?_push_of_some _ (hx b o hb e)) (Heap.get?_push_of_some _ htb) hge ⟨oc, vs, t, Heap.get?_push_of_some _ hoc, hd, hv⟩
    have hE : ExtN H (upd (upd H P (.tbl (ps ++ #[rawInt pos.line, rawInt pos.col, .ref c']))) c' (CodeO c' (X.env.qual ++ "<lambda>"))) := fun b o e n => by
      rw [upd_ne (ne_of_none e nC), upd_ne (fun z => n ps (Option.some.inj (e.symm.trans (by rw [z]; exact hP))))]
      exact e
    have eL : (ps ++ #[rawInt pos.line, rawInt pos.col, .ref c']).toList = ps.toList ++ [rawInt pos.line, rawInt pos.col, .ref c'] := by simp
    refine h h'.objs.size c' ((X.mg "__name__").getD .none) ctv _ _ I1 hE (fun b hb => ?_) (fun p hp => ?_) (Heap.get?_push_size _ rfl) ?_ (nofr _ hsz) upd_same
    · by_cases q : b = c'
      · rw [q, upd_same]; simp
      · rw [upd_ne q]
        by_cases r : b = P
        · rw [r, upd_same]; simp
        · rw [upd_ne r]; exact hb
    · by_cases hb : p.1 = P
      · rw [hu p hp hb, hb]
        refine ⟨_, by rw [upd_ne (ne_of_none hP nC), upd_same], by rw [eL]; exact PySem.TriplesOk_snoc _ _ _ _ ht, fun p' cv hcv => ?_⟩
        rw [eL] at hcv
        rcases among_app _ ht hcv with z | z
        · obtain ⟨c0, e1, e2⟩ := ha p' cv z
          exact ⟨c0, e1, hE _ _ e2 codeO_ne⟩
        · exact ⟨c', z, upd_same⟩
      · obtain ⟨ps', a1, a2, a3⟩ := hT p hp
        refine ⟨ps', by rw [upd_ne (ne_of_none a1 nC), upd_ne hb]; exact a1, a2, fun p' cv hcv => ?_⟩
        obtain ⟨c0, e1, e2⟩ := a3 p' cv hcv
        exact ⟨c0, e1, hE _ _ e2 codeO_ne⟩
    · have n1 : h'.objs.size ≠ c' := Nat.ne_of_gt hlt
      have n2 : h'.objs.size ≠ P := Nat.ne_of_gt (Nat.lt_of_lt_of_le (Heap.lt_size hP') hsz)
      rw [upd_ne n1, upd_ne n2]
      exact I.hok.fresh hsz
  | some cv =>
    obtain ⟨c', e, hco⟩ := ha pos cv hc
    subst e
    refine PySem.W.kla_makeFunctionHit (mg := X.mg) (c := c) (P := P) (ps := ps) (closure_ok hfree) I.ok.glob (I.mod.glob.keeps I.bk) hcode (TB.code.keeps I.bk) hP' ht hc bP fun ctv h' tk hx hsz => ?_
    have I1 : Inv X pins σ H { s with heap := h'.push (PySem.W.kla_obj "<lambda>" (X.env.qual ++ "<lambda>") params body scope (cloFrom X.env.cells scope.names []) ((X.mg "__name__").getD .none) c' ctv), toks := tk } := I.kept fun b o e => Heap.get?_push_of_some _ (hx b o e)
    exact h h'.objs.size c' ((X.mg "__name__").getD .none) ctv H _ I1 (ExtN.refl H) (fun b hb => hb) hT (Heap.get?_push_size _ rfl) (I.hok.fresh hsz) (nofr _ hsz) hco
theorem pe_actN {CXg : CXT} {Eg : XK} {Ng : List Str} {qg : Str} {sg : Scope} {g f c' : Addr} {cdg pm ctv : Value} {params : Arguments} {body : Expr} {scope : Scope} {k i : Nat} {a : Str} {pn : List (Addr × Obj)} {xe : Value → Shared → Prop} {W : WX} {E : XK} {tb : TE} {p1 p2 : Pos}
    (I : Inv X pins σ H s) (L : LamS X.env.scope scope) (hf : s.heap.get? f = some (PySem.W.kla_obj "<lambda>" (X.env.qual ++ "<lambda>") params body scope (cloFrom X.env.cells scope.names []) pm c' ctv)) (hfn : H f = none) (hfr : f ∉ frs X.stack)
    (hbind : bindArgs (PySem.W.kla_fn "<lambda>" (X.env.qual ++ "<lambda>") params body scope (cloFrom X.env.cells scope.names []) pm (.ref c') ctv) ⟨[], []⟩ = pure [])
    (tk : L2N.Takes ((cxOf CXg X.prog X.w X.K X.mg X.base Ng qg sg g cdg X.A X.stack s H Eg).tr pn xe) W) (hW : ∀ cls d σ' H', E cls d H' → W cls d σ' H') (hr : Room (k + 1) (X.A.deeper (envOfC qg sg s.heap.objs.size g cdg)))
    (hbody : ∀ (A : Around) (outer : List Env) (s : Shared) (H : Hp), Room k (A.deeper (lamEnv X scope s.heap.objs.size f c')) → PE (lamCxN X A outer s H E scope f c') body tb)
    (hN : Ng[i]? = some a) (hv : Vis sg a) (hd : (a == ("__debug__" : Str)) = false := by decide) (hcd : (a == ("__classdict__" : Str)) = false := by decide) :
    PE ((cxOf CXg X.prog X.w X.K X.mg X.base Ng qg sg g cdg X.A X.stack s H Eg).tr pn xe) (.Call (.Name a p1) [] [] p2)
      (fun σZ HZ Q => σZ[i]? = some (some (.ref f)) ∧ HZ c' = some (CodeO c' (X.env.qual ++ "<lambda>")) ∧ tb σ HZ Q) := by
  refine ⟨fun pinsZ sZ σZ HZ Q IZ h => ?_⟩
  obtain ⟨hs, hc, ht⟩ := h
  refine wpAny_Call_Name_kw (thn ((pe_var (pos := p1) (i := i) hN hv hd hcd).run pinsZ sZ σZ HZ (fun v H1 => v = .ref f ∧ H1 = HZ) IZ ⟨.ref f, hs, rfl, rfl⟩) fun u s1 ⟨v, H1, I1, r1, q1⟩ => ?_)
  obtain ⟨ev, eH⟩ := q1
  subst ev
  rw [eH] at I1
  obtain rfl : u = Value.ref f := r1
  have of1 : s1.heap.get? f = some (PySem.W.kla_obj "<lambda>" (X.env.qual ++ "<lambda>") params body scope (cloFrom X.env.cells scope.names []) pm c' ctv) := I1.base.keep f _ hf hfn hfr (fun z => nomatch (show f ∈ ([] : List Addr) from z))
  refine PySem.W.callWith_F0 ⟨_, _, _, _, of1⟩ ?_
  have un : Un (frs X.stack) [] H HZ s.heap s1.heap := I1.base
  obtain ⟨⟨oc, vs, t, hoc, hdc, hvc⟩, _, _⟩ := I1.hok c' _ hc
  have rc : codeAny (model X.prog X.w) (X.A.deeper (envOfC qg sg s.heap.objs.size g cdg)) (.call (.ref f) ⟨[], []⟩) (CR (L2N.CX X.prog X.w) (envOfC qg sg s.heap.objs.size g cdg :: X.stack) X.prog X.w HZ s1 Q E) s1 := by
    refine PySem.W.kla_callFunE hr.depth of1 rfl L.co L.gen rfl ⟨c', oc, vs, t, rfl, hoc, hdc, hvc⟩ ?_
    rw [hbind]
    refine wpAny_pure (wpAny_newFunctionEnv (fun y hy => (L.own y hy).2) (fun y hy => absurd hy (by simp)) (fun h₁ hns hsb => ⟨I1.nolimit.fresh _ hsb, ?_⟩) L.kind)
    show codeAny _ _ (.expr body (lamEnv X scope s1.heap.objs.size f c')) _ _
    have kp : ∀ b o, s1.heap.get? b = some o → h₁.get? b = some o := fun b o e => hsb.extBut b o (Nat.ne_of_lt (Heap.lt_size e)) (Heap.get?_push_of_some _ e)
    have J : Inv (lamCxN X (X.A.deeper (envOfC qg sg s.heap.objs.size g cdg)) (envOfC qg sg s.heap.objs.size g cdg :: X.stack) s1 HZ E scope f c') [] σ HZ { s1 with heap := h₁, toks := s1.toks + ([] : List (Str × Value)).length } :=
      (lam_start2 I L I1.env0 hr.hd un hns kp).toTry _
    refine PySem.W.kla_codeExpr (wpAny_mono ((hbody _ _ s1 HZ (hr.deeper _)).run [] _ _ HZ Q J ht) (fun v s' hq => ?_) fun e s' hq => hq)
    obtain ⟨w', H', J', rv, q⟩ := hq
    exact ⟨w', H', J'.os, J'.bare, J'.base, J'.hok, rv, q⟩
  have hx : Passes (L2N.CX X.prog X.w) ((cxOf CXg X.prog X.w X.K X.mg X.base Ng qg sg g cdg X.A X.stack s H Eg).tr pn xe) E := L2N.passes_call tk hW
  refine wpAny_call (codeAny_mono rc fun r s' hq => ?_)
  cases r with
  | error e => exact hx pinsZ σZ HZ s1 e s' I1 hq
  | ok fl =>
    cases fl with
    | ret u => exact I1.after hq
    | next => exact False.elim hq
    | brk => exact False.elim hq
    | cont => exact False.elim hq
end
def GivesToN (X : Cx) (Ng : List Str) (x : Str) (sg : Scope) (g : Addr) (cdg : Value) (bg : List Stmt) (a : Str) (q : Str) (TT : (XK → Hp → VK → Prop) → Hp → VK → Prop) : Prop :=
  ∀ (f c' : Addr) (s : Shared) (H : Hp) (Q : VK) (tl : XK → Hp → VK → Prop),
    (∀ (W : WX) (pn : List (Addr × Obj)) (xe : Value → Shared → Prop) (E : XK) (p1 p2 : Pos), L2N.Takes ((cxOf C8.CX0 X.prog X.w X.K X.mg X.base Ng x sg g cdg X.A X.stack s H C8.E0).tr pn xe) W → (∀ cls d σ' H', E cls d H' → W cls d σ' H') →
      PE ((cxOf C8.CX0 X.prog X.w X.K X.mg X.base Ng x sg g cdg X.A X.stack s H C8.E0).tr pn xe) (.Call (.Name a p1) [] [] p2) (fun σZ HZ Q => σZ[0]? = some (some (.ref f)) ∧ HZ c' = some (CodeO c' q) ∧ tl E HZ Q)) →
    H c' = some (CodeO c' q) → TT tl H Q →
    ∃ t, PSs (cxOf C8.CX0 X.prog X.w X.K X.mg X.base Ng x sg g cdg X.A X.stack s H C8.E0).nox bg t ∧ t { nx := fun _ H' => Q .non H', rt := Q } (L2.start Ng [.ref f]) H

def tLamN (T : List (Addr × Str)) (TT : (XK → Hp → VK → Prop) → Hp → VK → Prop) (t : XK → TE) : TE := fun σ H Q => Tabs T H ∧ ∀ H1, ExtN H H1 → (∀ b, H b ≠ none → H1 b ≠ none) → Tabs T H1 → TT (fun E H' Q' => t E σ H' Q') H1 Q

section
variable {X : Cx}
/-- x(lambda: body) -/
theorem pe_lamcallN {T : List (Addr × Str)} {TT : (XK → Hp → VK → Prop) → Hp → VK → Prop} {x a : Str} {g c P : Addr} {k : Nat} {pg : Arguments} {bg : List Stmt} {sg : Scope} {dV kV doc pm cdv ct oc : Value} {an od : Option Addr} {osl : Array (Option Value)} {Ng : List Str}
    {params : Arguments} {body : Expr} {scope : Scope} {t : XK → TE} {p lpos pos : Pos} (hg : Gl X x) (hm : X.mg x = some (.ref g)) (hk : PySem.W.keepIn X.K (.ref g) = true)
    (lk : X.K.lookup g = some ⟨oc, od, .func (PySem.W.fnOf x x pg bg sg dV kV doc pm an cdv ct), osl⟩) (hcg : PySem.W.codeIn X.K cdv x = true) (hb : L2.Binds X.K (PySem.W.fnOf x x pg bg sg dV kV doc pm an cdv ct) [a] []) (Sg : FnScope Ng [a] sg) (hNg : Ng[0]? = some a) (hva : Vis sg a)
    (hG : GivesToN X Ng x sg g cdv bg a (X.env.qual ++ "<lambda>") TT)
    (TB : TabB X.base X.mg c P) (hcode : X.env.code = .ref c) (hmT : (P, X.env.qual ++ "<lambda>") ∈ T) (hu : ∀ p ∈ T, p.1 = P → p.2 = X.env.qual ++ "<lambda>") (hr : Room (k + 2) X.A) (L : LamS X.env.scope scope) (hdef : defaultsOf params X.env = ([], []))
    (hbind : ∀ (q : Str) (cl : List (Str × Addr)) (pm cv ctv : Value), bindArgs (PySem.W.kla_fn "<lambda>" q params body scope cl pm cv ctv) ⟨[], []⟩ = pure [])
    (hbody : ∀ (A : Around) (outer : List Env) (s : Shared) (H : Hp) (E : XK) (f c' : Addr), Room k (A.deeper (lamEnv X scope s.heap.objs.size f c')) → PE (lamCxN X A outer s H E scope f c') body (t E))
    (hdb : (x == ("__debug__" : Str)) = false := by decide) (hd : (a == ("__debug__" : Str)) = false := by decide) (hcd : (a == ("__classdict__" : Str)) = false := by decide) :
    PE X (.Call (.Name x p) [.Lambda params body scope lpos] [] pos) (tLamN T TT t) := by
  refine ⟨fun pins s σ H Q I h => ?_⟩
  obtain ⟨hT, h⟩ := h
  refine wpAny_Call_Name_kw (ld_glob I hg hm ?_ hdb)
  refine PySem.W.callWith_K (h₀ := X.base) I.ok.mod.kin hk ?_ (by rfl) (by rfl)
  show wpAny _ _ (spliced ((false, eval (.Lambda params body scope lpos) X.env) :: backTo pos (starEach [] X.env))) _ _ s
  refine Calls.spliced_cons (lam_make3 I TB hcode hmT hu hT hdef (L.has I.ok) fun f c' pm' ctv H1 s' I1 eN eL T1 hf hfn hfr hco => ?_)
  refine Calls.spliced_nil ⟨I1.kIn, ?_⟩
  have rc : codeAny (model X.prog X.w) X.A (.call (.ref g) ⟨[.ref f], []⟩) (CR C8.CX0 X.stack X.prog X.w H1 s' Q C8.E0) s' := by
    refine run_ofS (N := Ng) (ps := [a]) (us := [.ref f]) (vs := [.ref f]) lk hcg Sg hr I1.env0 (hb s' [.ref f] I1.kIn rfl) (.cons rfl .nil) rfl fun hr' => ?_
    obtain ⟨t', ht', hq'⟩ := hG f c' s' H1 Q (fun E H' Q' => t E σ H' Q') (fun W pn xe E p1 p2 tk hW => pe_actN (i := 0) I1 L hf hfn hfr (hbind _ _ _ _ _) tk hW hr' (fun A outer s H hr2 => hbody A outer s H E f c' hr2) hNg hva hd hcd) hco (h H1 eN eL T1)
    exact ⟨t', ht'.nox, hq'⟩
  refine wpAny_call (codeAny_mono rc fun r s2 hq => ?_)
  cases r with
  | error e => exact (show False from hq).elim
  | ok fl =>
    cases fl with
    | ret u => exact I1.after hq
    | next => exact False.elim hq
    | brk => exact False.elim hq
    | cont => exact False.elim hq

end
end RH

/-! The data layer, part 20: told: try: return deed() / except E as e: return term(e). -/
namespace RH
open PySem PySem.Spec L2 LamX HotX L2H
/-- a heap with its part for good, no slot told -/
structure BaseOk (Y : Lay) (F H : Hp) : Prop where
  sub : Grw F H
  tab : LamX.Tabs Y.T H
  ntb : ∀ b o, F b = some o → okO o
theorem SOk.base {Y : Lay} {K : PySem.W.Frag} {vs0 : List V} {F H : Hp} {σ : L2.St} {δ : List Slot} {w : Wn} (S : SOk Y K vs0 F H σ δ w) : BaseOk Y F H := ⟨S.sub, S.tab, S.ntb⟩
theorem BaseOk.pin {Y : Lay} {K : PySem.W.Frag} {F H : Hp} (B : BaseOk Y F H) : ArgOk Y K F H [.ref Y.exa] [.pin] fun _ => [] where
  len := rfl
  sub := B.sub
  tab := B.tab
  ntb := B.ntb
  at_ := fun i s e => by
    match i with
    | 0 => cases e; exact .pin
    | i + 1 => cases e
  emp := fun _ _ => rfl
  nof := fun _ _ h => by simp at h
  dis := fun _ _ _ h => by simp at h
  par := fun _ _ _ h => by simp at h
abbrev none0 : Addr → Prop := Wn.has fun _ => []
/-- what a def tells of the handled exception: its result by the class's number -/
def spT (Y : Lay) (K : PySem.W.Frag) (d : PyData) (H : Hp) (Q : VK) : Prop := ∃ F, BaseOk Y F H ∧ ∀ v F' H', BaseOk Y F' H' → Step none0 F H F' H' none0 → Dp K F' v d → Q v H'
structure FnT (P : Program) (w : World) (K : PySem.W.Frag) (mg : Str → Option Value) (base : Heap) (Y : Lay) (k : Nat) (f : Addr) (fd : FuncData) (ps : List Str) (φ : Nat → Option PyData) : Prop where
  run : ∀ (A : Around) (outer : List Env) (s : Shared) (H : Hp) (args : Args) (Q : VK) (p : Addr × Obj) (c : Nat) (d : PyData), RoomH k A → Hot1 A p → PinOk outer H s p → Zc (.ref (Y.ex c)) none p.2 → Env0 P w K mg base A outer s H → BindsTo s fd args (ps.zip [.ref p.1]) → φ c = some d → spT Y K d H Q →
    codeAny (model P w) A (.call (.ref f) args) (CR C8.CX0 outer P w H s Q C8.E0) s
section
variable {P : Program} {w : World} {K : PySem.W.Frag} {mg : Str → Option Value} {base : Heap}
theorem fn_ofT {k : Nat} {f : Addr} {name qual : Str} {params : Arguments} {body : List Stmt} {scope : Scope} {dV kV doc pm cdv ct oc : Value} {an od : Option Addr}
    {osl : Array (Option Value)} {N : List Str} {y : Str} {Y : Lay} {φ : Nat → Option PyData} {m : Nat → MS} (lk : K.lookup f = some ⟨oc, od, .func (PySem.W.fnOf name qual params body scope dV kV doc pm an cdv ct), osl⟩) (hcd : PySem.W.codeIn K cdv qual = true) (S : FnScope N [y] scope)
    (hφ : ∀ c d, φ c = some d → ∃ δ, m c ([.pin] ++ List.replicate (N.length - 1) .no) = some (.rt d δ))
    (hbody : ∀ (A : Around) (outer : List Env) (s : Shared) (H : Hp) (p : Addr × Obj) (c : Nat) (d : PyData), φ c = some d → Hot1 A p → Zc (.ref (Y.ex c)) none p.2 → RoomH k (A.deeper (PyProof.Rows.envOfC qual scope s.heap.objs.size f cdv)) →
      PBd (cxH C8.CX0 P w K mg base N qual scope f cdv A outer s H C8.E0 p) ⟨{ Y with exa := p.1 }, K, [.ref p.1]⟩ W0 body (m c)) :
    FnT P w K mg base Y (k + 1) f (PySem.W.fnOf name qual params body scope dV kV doc pm an cdv ct) [y] φ := by
  refine ⟨fun A outer s H args Q p c d hr hot hpin hz e0 hb hc hsp => ?_⟩
  have KX : K.In s.heap := e0.mod.kin.keeps fun b o e => (e0.bs b o e).1
  have lim : s.heap.NoLimit := e0.mod.nolimit.keeps fun b o e => (e0.bs b o e).1
  have hkind : ∀ z ∈ [y].zip [Value.ref p.1], scope.names.lookup z.1 = some .local ∨ (scope.names.lookup z.1 = some .cell ∧ ((cellsFrom (s.heap.objs.size + 1) scope.names []).lookup z.1).isSome = true) := fun ⟨n, v⟩ hy => by
    rcases S.par n (List.of_mem_zip hy).1 with q | q
    · exact .inl q
    · exact .inr ⟨q, PySem.W.cellsFrom_some _ _ _ (.inl q)⟩
  refine codeAny_call_function hr.depth (KX _ _ lk) rfl S.co S.gen rfl (PySem.W.codeRec_of KX hcd) (hb _ _ _ _ ?_)
  refine wpAny_newFunctionEnv_cells S.kind hkind fun env he s1 x => ?_
  subst he
  refine ⟨lim.keeps x.toInCall.keep, codeAny_func ?_⟩
  have ht := hbody A outer s H p c d hc hot hz (hr.deeper _)
  have I : L2.Inv (cxH C8.CX0 P w K mg base N qual scope f cdv A outer s H C8.E0 p) [] (L2.start N [.ref p.1]) H s1 := inv_startH S hpin e0 rfl (.cons rfl .nil) x
  have fin : ∀ {σ' : L2.St} {H' : Hp} {v : V} {u : Value} {s' : Shared}, L2.Inv (cxH C8.CX0 P w K mg base N qual scope f cdv A outer s H C8.E0 p) [] σ' H' s' → RelV v u → Q v H' → CE outer P w H s Q u s' :=
    fun {σ' H' v u s'} J rv q => ⟨v, H', J.os, J.bare, J.base, J.hok, rv, q⟩
  obtain ⟨F, B, q⟩ := hsp
  obtain ⟨δ, hm⟩ := hφ c d hc
  have B' : BaseOk { Y with exa := p.1 } F H := ⟨B.sub, B.tab, B.ntb⟩
  have hst : tSt ⟨{ Y with exa := p.1 }, K, [.ref p.1]⟩ W0 (m c) { nx := fun _ _ => False, rt := Q } (L2.start N [.ref p.1]) H := by
    refine ⟨[.pin] ++ List.replicate (N.length - 1) .no, fun _ => [], F, ?_, ?_⟩
    · show SOk { Y with exa := p.1 } K [.ref p.1] F H (L2.start N [.ref p.1]) ([.pin] ++ List.replicate (N.length - 1) .no) _
      exact argOk_start (B'.pin (K := K)) _
    · simp only [tStAt]
      rw [hm]
      exact fun v σ' w' F' H' S' g hv => q v F' H' ⟨S'.sub, S'.tab, S'.ntb⟩ (g.mono (fun _ h => h) fun b ⟨_, z⟩ => by simp at z) hv
  refine wpAny_mono (ht.run [] s1 (L2.start N [.ref p.1]) H _ I hst) (fun fl s' hs => ?_) fun e s' hs => ?_
  · cases fl with
    | ret u =>
      obtain ⟨v, σ', H', J, rv, q⟩ := hs
      exact fin J rv q
    | next =>
      obtain ⟨σ', H', J, q⟩ := hs
      exact False.elim q
    | brk =>
      obtain ⟨_, _, _, q⟩ := hs
      exact False.elim q
    | cont =>
      obtain ⟨_, _, _, q⟩ := hs
      exact False.elim q
  · exact hs
end
section
variable {X : Cx} {k n : Nat} {f : Addr} {fd : FuncData} {ps : List Str} {φ : Nat → Option PyData} {x : Str} {p pos : Pos} {e : Expr}
/-- term(e) within the suite that holds e -/
theorem pe_callT {Y : Lay} {i c : Nat} {y : Str} {a : Addr} {oe : Obj} (F : FnT X.prog X.w X.K X.mg X.base Y k f fd ps φ) (hr : RoomH k X.A) (hot : Hot1 X.A (a, oe)) (hp : (a, oe) ∈ X.pn) (hz : Zc (.ref (Y.ex c)) none oe) {d : PyData} (hc : φ c = some d) (hg : Gl X x) (hm : X.mg x = some (.ref f)) (hk : PySem.W.keepIn X.K (.ref f) = true) (hb : Binds X.K fd ps []) (hps : ps.length = 1)
    (hi : X.N[i]? = some y) (hv : Vis X.env.scope y) (hd : (y == ("__debug__" : Str)) = false) (hcd : (y == ("__classdict__" : Str)) = false) {q : Pos}
    (hdb : (x == ("__debug__" : Str)) = false := by decide) (he : starEach [.Name y q] X.env = (false, eval (.Name y q) X.env) :: starEach [] X.env := by rfl) (hpl : (backTo pos (starEach [] X.env)).any (·.1) = false := by rfl) :
    PE X (.Call (.Name x p) [.Name y q] [] pos) (fun σ H Q => σ[i]? = some (some (.ref a)) ∧ spT Y X.K d H Q) := by
  refine ⟨fun pins s σ H Q I h => ?_⟩
  obtain ⟨hs, h⟩ := h
  refine wpAny_Call_Name_kw (ld_glob I hg hm ?_ hdb)
  refine PySem.W.callWith_K (h₀ := X.base) I.ok.mod.kin hk (thn ((pa_cons (pe_var (pos := q) hi hv hd hcd) pa_nil he).run pos pins s σ H (fun vs H1 => vs = [.ref a] ∧ H1 = H) I ⟨_, hs, rfl, rfl⟩) fun us s1 ⟨vs, H1, I1, r, ev, eH⟩ => ⟨I1.kIn, ?_⟩) he hpl
  subst ev
  rw [eH] at I1
  rw [Vals.ref1 r]
  have b := hb s1 [.ref a] I1.kIn (by rw [List.append_nil]; exact hps.symm)
  rw [List.append_nil] at b
  have P1 := I1.pin (a, oe) (List.mem_append_left _ hp)
  have hpin : PinOk X.stack H s1 (a, oe) := ⟨P1.1, P1.2.1, fun hm => (List.mem_cons.mp (I1.stkSub a hm)).elim P1.2.2.1 P1.2.2.2.1, P1.2.2.2.2⟩
  refine wpAny_call (codeAny_mono (F.run X.A X.stack s1 H ⟨[.ref a], []⟩ Q (a, oe) c d hr hot hpin hz I1.env0 b hc h) fun r s' hq => ?_)
  cases r with
  | error e => exact (show False from hq).elim
  | ok fl =>
    cases fl with
    | ret u => exact I1.after hq
    | next => exact False.elim hq
    | brk => exact False.elim hq
    | cont => exact False.elim hq
end
theorem takes_len {X : Cx} {W : WX} (tk : L2N.Takes X W) : L2N.Takes X (fun c d σ H => σ.length = X.N.length → W c d σ H) := fun u s' h => by
  obtain ⟨a, B, sI, pins, σ, H, cls, d, e, I, nb, up, sky, na, os, ag, w⟩ := h
  exact tk u s' ⟨a, B, sI, pins, σ, H, cls, d, e, I, nb, up, sky, na, os, ag, w I.len⟩

/-! ### told -/
def TToldN (Y : Lay) (K : PySem.W.Frag) (CS : Addr) (φ : Nat → Option PyData) : (XK → Hp → VK → Prop) → Hp → VK → Prop := fun tl H Q =>
  tl (fun cls d H' => d = none ∧ ∃ k r, cls = .ref (Y.ex k) ∧ PySem.W.exmOne K cls (.ref CS) = some true ∧ φ k = some r ∧ spT Y K r H' Q) H Q
section
variable {X : Cx}
theorem told_givesN {Y : Lay} {Ng : List Str} {x a e n tm q : Str} {sg : Scope} {g CS : Addr} {cdg : Value} {kT : Nat} {fT : Addr} {fdT : FuncData} {psT : List Str} {φ : Nat → Option PyData} {p1 p2 p3 p4 p5 p6 p7 p8 p9 p10 : Pos} (hr : RoomH (kT + 1) X.A)
    (FT : FnT X.prog X.w X.K X.mg X.base Y kT fT fdT psT φ) (hmT : X.mg tm = some (.ref fT)) (hkT : PySem.W.keepIn X.K (.ref fT) = true) (hbT : Binds X.K fdT psT []) (hpT : psT.length = 1)
    (hge : sg.names.lookup e = some .globalImplicit) (hgt : sg.names.lookup tm = some .globalImplicit) (hme : X.mg e = some (.ref CS)) (hde : (e == ("__debug__" : Str)) = false) (hdt : (tm == ("__debug__" : Str)) = false) (h0 : ∀ f : Addr, (L2.start Ng [V.ref f])[0]? = some (some (V.ref f)))
    (hNd : Ng.Nodup) (hn1 : Ng[1]? = some n) (hln : sg.names.lookup n = some .local) (hkd : sg.kind = .function) (hdn : (n == ("__debug__" : Str)) = false) (hcn : (n == ("__classdict__" : Str)) = false)
    (hst : ∀ Z : Cx, Z.env.scope = sg → starEach [.Name n p6] Z.env = (false, eval (.Name n p6) Z.env) :: starEach [] Z.env) :
    GivesToN X Ng x sg g cdg [.Try [.Return (some (.Call (.Name a p1) [] [] p2)) p3] [.ExceptHandler (some (.Name e p4)) (some n) [.Return (some (.Call (.Name tm p5) [.Name n p6] [] p7)) p8] p9] [] [] p10] a q (TToldN Y X.K CS φ) := by
  intro f c' s H Q tl act hc h
  have hgl : Gl (cxOf C8.CX0 X.prog X.w X.K X.mg X.base Ng x sg g cdg X.A X.stack s H C8.E0).nox e := hge
  refine ⟨_, pss_one (L2N.ps_try_as (X := (cxOf C8.CX0 X.prog X.w X.K X.mg X.base Ng x sg g cdg X.A X.stack s H C8.E0).nox) (c := .ref CS) (i := 1)
    (tb := fun W D σ H => ∃ Ech : XK, (∀ cls d σ' H', σ'.length = Ng.length → Ech cls d H' → W cls d σ' H') ∧ σ[0]? = some (some (.ref f)) ∧ H c' = some (CodeO c' q) ∧ tl Ech H D.rt)
    (ts := fun a cls d D σ H => σ[1]? = some (some (.ref a)) ∧ ∃ k r, cls = .ref (Y.ex k) ∧ d = none ∧ φ k = some r ∧ spT Y X.K r H D.rt)
    (Wout := W0) rfl rfl hNd hn1 hln ⟨hgl, hde, .inl hme⟩ takesN0 (fun W pn xe tk _ => ?_) (fun a oe cls d pn hz hf => ?_)), ?_⟩
  · refine ⟨fun pins s' σ H' D I h' => ?_⟩
    obtain ⟨Ech, hW, h1, h2, h3⟩ := h'
    have hp := act (fun c d σ H => σ.length = Ng.length → W c d σ H) pn xe Ech p1 p2 (takes_len tk) (fun cls d σ' H' he hl => hW cls d σ' H' hl he)
    have hq := pss_one (ps_ret (pos := p3) hp)
    exact hq.run pins s' σ H' D I ⟨h1, h2, h3⟩
  · refine ⟨fun pins s' σ H' D I h' => ?_⟩
    obtain ⟨h1, k, r, rfl, rfl, hφ, hs⟩ := h'
    obtain ⟨vs, hv⟩ := hf
    have hp := pe_callT (X := (cxOf C8.CX0 X.prog X.w X.K X.mg X.base Ng x sg g cdg X.A X.stack s H C8.E0).nox.suite a ((a, oe) :: pn)) (i := 1) (y := n) (q := p6) (p := p5) (pos := p7) (Y := Y) (c := k) FT ⟨(hr.deeper (PyProof.Rows.envOfC x sg s.heap.objs.size g cdg)).dp, (hr.deeper (PyProof.Rows.envOfC x sg s.heap.objs.size g cdg)).un⟩ ⟨rfl, vs, hv, hz.2.2 vs hv⟩ List.mem_cons_self hz.zc hφ hgt hmT hkT hbT hpT hn1 (.inl hln) hdn hcn hdt (hst _ rfl) (by rfl)
    exact (pss_one (ps_ret (pos := p8) hp)).run pins s' σ H' D I ⟨h1, hs⟩
  · refine ⟨fun cls d H' => d = none ∧ ∃ k r, cls = .ref (Y.ex k) ∧ PySem.W.exmOne X.K cls (.ref CS) = some true ∧ φ k = some r ∧ spT Y X.K r H' Q, fun cls d σ' H' hl ⟨hd, k, r, ec, ex, hφ, hs⟩ => ⟨true, ex, fun _ a na => ⟨?_, k, r, ec, hd, hφ, hs⟩, fun z => nomatch z⟩, h0 f, hc, h⟩
    have h2 := (List.getElem?_eq_some_iff.mp hn1).1
    rw [List.getElem?_set_self (by rw [hl]; exact h2)]
end
end RH

/-! The data layer, part 21: told, by data; the term of what was raised. -/
namespace RH
open PySem PySem.Spec L2 LamX HotX L2H
theorem SOk.calledB {Y : Lay} {K : PySem.W.Frag} {vs0 : List V} {F H F' H' : Hp} {σ : L2.St} {δ : List Slot} {w : Wn} (S : SOk Y K vs0 F H σ δ w) (A : BaseOk Y F' H') (g : Step none0 F H F' H' none0) : SOk Y K vs0 F' H' σ δ w where
  len := S.len
  sub := A.sub
  tab := A.tab
  ntb := A.ntb
  at_ := fun i s e => slot_ext g.ff (fun p hp ho h t => g.keep p ho (fun ⟨_, z⟩ => by simp at z) h t) (S.at_ i s e)
  emp := S.emp
  nof := fun i p h => g.prot p (S.there ⟨i, h⟩) (S.nof i p h) fun ⟨_, z⟩ => by simp at z
  dis := S.dis
  par := S.par
theorem Step.none0 {W : Addr → Prop} {F H F' H' : Hp} {w : Wn} (g : Step RH.none0 F H F' H' RH.none0) (h : ∀ b, w.has b → W b ∨ H b = none) : Step W F H F' H' w.has :=
  ⟨g.ff, fun b o n => g.keep b o fun ⟨_, z⟩ => by simp at z, g.live, fun b h1 h2 h3 => g.prot b h1 h2 fun ⟨_, z⟩ => by simp at z, h⟩
def mtold (φ : Nat → Option PyData) (m : M PyData) : M PyData := fun δ => match m δ with
  | some (.ok d δ') => some (.ok d δ')
  | some (.ex k δ') => (match φ k with
    | some r => some (.ok r δ')
    | none => none)
  | none => none
section
variable {X : Cx} {C : Lx} {Wx : WX}
theorem told_read {φ : Nat → Option PyData} {m : M PyData} {CS : Addr} {σ : L2.St} {H : Hp} {Q : VK} (hK : C.K = X.K) (hx : ∀ k r, φ k = some r → PySem.W.exmOne X.K (.ref (C.Y.ex k)) (.ref CS) = some true) (h : tE C Wx (mtold φ m) σ H Q) :
    tLamN C.Y.T (TToldN C.Y X.K CS φ) (fun E => tE C (wOf E) m) σ H Q := by
  obtain ⟨δ, w, F, S, h⟩ := h
  refine ⟨S.tab, fun H1 eN eL T1 => ?_⟩
  have g1 : Step w.has F H F H1 w.has := ⟨Grw.refl F, fun b o _ e n => eN b o e n, fun b hb => eL b hb, fun _ _ h _ => h, fun b h => .inl h⟩
  have S1 : C.ok F H1 σ δ w :=
    { len := S.len
      sub := fun b o e => eN b o (S.sub b o e) fun ps z => by
        have := S.ntb b o e
        rw [z] at this
        exact this
      tab := T1
      ntb := S.ntb
      at_ := fun i s e => slot_ext (Grw.refl F) (fun p hp ho h n => eN p ho h n) (S.at_ i s e)
      emp := S.emp
      nof := S.nof
      dis := S.dis
      par := S.par }
  show tE C (wOf _) m σ H1 Q
  refine ⟨δ, w, F, S1, ?_⟩
  simp only [tAt, mtold] at h ⊢
  cases em : m δ with
  | none => rw [em] at h; exact h
  | some r =>
    rw [em] at h
    cases r with
    | ok d δ' => exact fun w' F' H' S' g' => h w' F' H' S' (g1.trans g')
    | ex k δ' =>
      dsimp only at h
      cases ek : φ k with
      | none => rw [ek] at h; exact h.elim
      | some r =>
        rw [ek] at h
        intro w' F' H' S' g'
        refine ⟨rfl, k, r, rfl, hx k r ek, ek, F', S'.base, fun v F2 H2 B2 g2 hv => ?_⟩
        rw [← hK] at hv
        exact h w' F2 H2 (S'.calledB B2 g2) ((g1.trans g').trans (Step.none0 (W := w'.has) g2 fun b hb => .inl hb)) v hv
/-- told(lambda: body) -/
theorem pd_told {st : Stmt} {φ : Nat → Option PyData} {m : M PyData} {CS c Pt fT : Addr} {fdT : FuncData} {psT : List Str} {kT k : Nat} {p1 p2 p3 p4 p5 p6 p7 p8 p9 p10 p lpos pos : Pos} {params : Arguments} {body : Expr} {scope : Scope}
    (FD : DefF X.K X.mg "_law_told" "_law_told" st ["_law_deed"]) (hbd : defBody st = [.Try [.Return (some (.Call (.Name "_law_deed" p1) [] [] p2)) p3] [.ExceptHandler (some (.Name "RoomError" p4)) (some "_law_e") [.Return (some (.Call (.Name "_law_term" p5) [.Name "_law_e" p6] [] p7)) p8] p9] [] [] p10])
    (Sg : FnScope ["_law_deed", "_law_e"] ["_law_deed"] (defScope st)) (hg1 : (defScope st).names.lookup ("RoomError" : Str) = some .globalImplicit) (hg2 : (defScope st).names.lookup ("_law_term" : Str) = some .globalImplicit) (hln : (defScope st).names.lookup ("_law_e" : Str) = some .local)
    (hva : Vis (defScope st) "_law_deed") (hst : ∀ Z : Cx, Z.env.scope = defScope st → starEach [.Name "_law_e" p6] Z.env = (false, eval (.Name "_law_e" p6) Z.env) :: starEach [] Z.env)
    (FT : FnT X.prog X.w X.K X.mg X.base C.Y kT fT fdT psT φ) (hmT : X.mg "_law_term" = some (.ref fT)) (hkT : PySem.W.keepIn X.K (.ref fT) = true) (hbT : Binds X.K fdT psT []) (hpT : psT.length = 1) (hme : X.mg "RoomError" = some (.ref CS))
    (hx : ∀ k r, φ k = some r → PySem.W.exmOne X.K (.ref (C.Y.ex k)) (.ref CS) = some true) (hK : C.K = X.K)
    (TB : TabB X.base X.mg c Pt) (hcode : X.env.code = .ref c) (hmT' : (Pt, X.env.qual ++ "<lambda>") ∈ C.Y.T) (huT : ∀ p ∈ C.Y.T, p.1 = Pt → p.2 = X.env.qual ++ "<lambda>") (hr : Room (k + 2) X.A) (hkk : kT + 1 ≤ k + 2) (L : LamS X.env.scope scope) (hdef : defaultsOf params X.env = ([], []))
    (hbind : ∀ (q : Str) (cl : List (Str × Addr)) (pm cv ctv : Value), bindArgs (PySem.W.kla_fn "<lambda>" q params body scope cl pm cv ctv) ⟨[], []⟩ = pure [])
    (hbody : ∀ (A : Around) (outer : List Env) (s : Shared) (H : Hp) (E : XK) (f c' : Addr), Room k (A.deeper (lamEnv X scope s.heap.objs.size f c')) → PD (lamCxN X A outer s H E scope f c') C (wOf E) body m) (hg : Gl X "_law_told" := by rfl) :
    PD X C Wx (.Call (.Name "_law_told" p) [.Lambda params body scope lpos] [] pos) (mtold φ m) := by
  obtain ⟨g, fd, F, hm, hb⟩ := FD.ex
  obtain ⟨oc, od, kV, doc, pm, an, cdv, ct, osl, rfl, lk, hcd⟩ := F.ex
  have hr2 : RoomH (kT + 1) X.A := (roomH_of hr).mono hkk
  refine pe_weak (pe_lamcallN (T := C.Y.T) (TT := TToldN C.Y X.K CS φ) (Ng := ["_law_deed", "_law_e"]) (a := "_law_deed") hg hm F.kp lk hcd hb Sg rfl hva ?_ TB hcode hmT' huT hr L hdef hbind hbody) fun σ H Q h => told_read hK hx h
  rw [hbd]
  exact told_givesN hr2 FT hmT hkT hbT hpT hg1 hg2 hme (by decide) (by decide) (fun f => rfl) Sg.nd rfl hln Sg.kind (by decide) (by decide) hst
end
end RH

/-! The data layer, part 22: what is asked of a handled exception; walks beside it. -/
namespace RH
open PySem PySem.Spec L2 LamX HotX L2H
def misE (i : Nat) (b : Bool) : M PyData := fun δ => match δ[i]? with
  | some .pin => some (.ok (.bool b) δ)
  | _ => none
theorem misE_at {i : Nat} {b : Bool} {δ : List Slot} {r : Res PyData} (h : misE i b δ = some r) : δ[i]? = some .pin ∧ r = .ok (.bool b) δ := by
  unfold misE at h
  split at h
  · rename_i e
    exact ⟨e, (Option.some.inj h).symm⟩
  · cases h
theorem SOk.pinV {Y : Lay} {K : PySem.W.Frag} {vs0 : List V} {F H : Hp} {σ : L2.St} {δ : List Slot} {w : Wn} (S : SOk Y K vs0 F H σ δ w) {i : Nat} (e : δ[i]? = some .pin) : σ[i]? = some (some (.ref Y.exa)) := by
  have h := S.at_ i _ e
  cases q : σ[i]? with
  | none =>
    rw [q] at h
    cases h
  | some o =>
    rw [q] at h
    generalize hw : w i = wi at h
    have h' : SlotOk Y K F H o .pin wi := h
    cases h' with
    | pin => rfl
section
variable {X : Cx} {C : Lx} {Wx : WX} {tg iter elt : Expr} {ifs : List Expr} {m : M PyData} {mt : M Bool} {me : M PyData} {t : Tg} {p q q2 pos : Pos} {scope : Scope} {y x : Str}
theorem call_isEP {a D : Addr} {oe : Obj} (Cc : ExcC X.K D) (hz : Zc (.ref D) none oe) (hf : ∃ vs, oe.data = .fields vs) (hp : (a, oe) ∈ X.pn) : CallR X (.builtin "isinstance") (rIsE X.K D a) := by
  intro pins s σ H xs us Q I r h
  obtain ⟨c, cv, b, rfl, hcv, e, q⟩ := h
  cases r with
  | cons rx rr =>
    cases rr with
    | cons rt rr =>
      cases rr
      cases rx
      have ec := hcv _ rt
      subst ec
      obtain ⟨hget, _⟩ := I.pin (a, oe) (List.mem_append_left _ hp)
      obtain ⟨vs, hv⟩ := hf
      have J : PySem.W.InstAt s.heap a oe D none := by
        obtain ⟨oc, od, oda, osl⟩ := oe
        obtain ⟨h1, h2⟩ := hz
        dsimp only at h1 h2 hv
        subst h1 h2 hv
        exact ⟨hget, rfl, rfl, trivial⟩
      exact PySem.W.kia_one (PySem.W.handS_kitx_exc Cc.hg Cc.hk Cc.hs Cc.hd Cc.ha Cc.hn Cc.ht Cc.hm) I.kIn J e (fun z => nomatch z) fun tk => ⟨.bl b, H, I.kept (t' := tk) fun _ _ z => z, rfl, q⟩
/-- isinstance(e, x), e the handled exception -/
theorem pd_isiE (i : Nat) {D : Addr} {oe : Obj} {b : Bool} {cV : V} {cv : Value} (Cc : ExcC X.K D) (hz : Zc (.ref D) none oe) (hf : ∃ vs, oe.data = .fields vs) (hp : (C.Y.exa, oe) ∈ X.pn) (hcls : PE X (.Name x q2) (tC cV)) (hcv : ∀ u, RelV cV u → u = cv) (hk : PySem.W.kitOne X.K (.ref D) cv = some b)
    (hn : OwnN X i y) (hm : X.mg "isinstance" = none) (hg : Gl X "isinstance" := by rfl)
    (hs1 : starEach [.Name y q, .Name x q2] X.env = (false, eval (.Name y q) X.env) :: starEach [.Name x q2] X.env := by rfl) (hs2 : starEach [.Name x q2] X.env = (false, eval (.Name x q2) X.env) :: starEach [] X.env := by rfl)
    (hpl : (backTo pos (starEach [.Name x q2] X.env)).any (·.1) = false := by rfl) : PD X C Wx (.Call (.Name "isinstance" p) [.Name y q, .Name x q2] [] pos) (misE i b) := by
  refine pe_weak (pe_callB (call_isEP Cc hz hf hp) hg hm PyProof.Rows.boot_isinstance (pa_cons (pe_own hn) (pa_cons hcls pa_nil hs2) hs1) (by decide) (by decide) hs1 hpl) fun σ H Q qq => tE_use qq fun δ w F S h => ?_
  simp only [tAt] at h
  cases em : misE i b δ with
  | none => rw [em] at h; exact h.elim
  | some r =>
    rw [em] at h
    obtain ⟨e1, rfl⟩ := misE_at em
    exact ⟨_, S.pinV e1, cV, cv, b, rfl, hcv, hk, h w F H S S.here _ (.bl b)⟩
/-- for x in e, e a list, while an exception is handled -/
def msrcL (m : M PyData) : M (List PyData) := mbind m fun d => mlift (match d with
  | .list ds => some ds
  | _ => none)
theorem list_src {σ : L2.St} {H : Hp} {R : It → Hp → Prop} (hK : C.K = X.K) (h : tI C Wx (msrcL m) σ H R) : iList X.K (tE C Wx m) σ H R := by
  obtain ⟨δ, w, F, S, h⟩ := h
  show tE C Wx m σ H _
  refine tE_then S h fun d δ1 w1 F1 H1 v S1 g1 hv h1 => ?_
  obtain ⟨z, ez, q2⟩ := tAt_lift h1
  cases d with
  | list ds =>
    cases ez
    cases hv with
    | lst hs hd =>
      have hs' := hs
      rw [hK] at hs'
      have := q2 w1 F1 H1 S1 S1.here _ (itD_list hs hd)
      rw [hK] at this
      exact ⟨_, rfl, ⟨_, sql_ext S1.sub hs'⟩, this⟩
  | _ => cases ez
theorem po_lcH (own : List (Str × Nat)) (vs : List Nat) (hc : HotC X) (hN : X.N.Nodup) (hK : C.K = X.K) (hi : PD X C Wx iter m) (hvs : own.map (·.2) = vs) (ht : ∀ j ∈ t.slots, j ∈ vs) (ok : BlkOk X.N X.env.scope scope own)
    (hg : ∀ (s : Shared) (H : Hp) (Cc : Addr) (cl : List (Str × Addr)) (fp : List Addr), PG (X.blk s H scope (compEnvC scope cl Cc X.env) fp) tg (tG C t)) (hts : ∀ (s : Shared) (H : Hp) (Cc : Addr) (cl : List (Str × Addr)) (fp : List Addr), PTs (X.blk s H scope (compEnvC scope cl Cc X.env) fp) ifs (tT C W0 mt))
    (he : ∀ (s : Shared) (H : Hp) (Cc : Addr) (cl : List (Str × Addr)) (fp : List Addr), PE (X.blk s H scope (compEnvC scope cl Cc X.env) fp) elt (tE C W0 me)) (hs : ∀ x, foldedSetIterable iter X.env x = pure x := by intro _; rfl) :
    PO X C Wx (.ListComp elt [⟨tg, iter, ifs, 0⟩] scope pos) (mcomp (msrcL m) vs t mt me) :=
  pe_weak (pe_lcH hc hN (pi_listB hi) ok hg hts he hs) fun σ H Q q => by
    have h := lc_tO hvs ht q
    exact list_src hK h
theorem callD_sumH (hc : HotC X) : CallD X (.builtin "sum") sumD := callD_of (cr_sumH hc) fun F H xs ds z Q g hd h q => by
  obtain ⟨d, rfl, h'⟩ := one_some h
  clear h
  have h := h'
  clear h'
  cases hd with
  | cons hd ht =>
    cases ht
    cases hd with
    | lst hs hd =>
      obtain ⟨bs, h1, rfl⟩ := Option.map_eq_some_iff.mp h
      have e1 := intsOf_some h1
      subst e1
      have e2 := ints_dps hd
      subst e2
      exact ⟨_, bs, rfl, sql_ext g hs, q _ F H (Alc.refl g) (.int _)⟩
    | _ => cases h
end
theorem hu64H {j : Nat} {A : Around} (r : RoomH j A) : A.units + 64 < cLine := by have := r.un; omega
theorem hu65H {j : Nat} {A : Around} (r : RoomH j A) : A.units + 65 < cLine := by have := r.un; omega
end RH

/-! The data layer, part 23: the frame's defs. -/
namespace RH
open PySem PySem.Spec L2 LamX HotX L2H
section
variable {P : Program} {w : World} {K : PySem.W.Frag} {mg : Str → Option Value} {base : Heap}
/-- a def that tells of the handled exception -/
structure TOk (P : Program) (w : World) (K : PySem.W.Frag) (mg : Str → Option Value) (base : Heap) (Y : Lay) (k : Nat) (x : Str) (φ : Nat → Option PyData) : Prop where
  ex : ∃ (f : Addr) (fd : FuncData) (ps : List Str), FnT P w K mg base Y k f fd ps φ ∧ mg x = some (.ref f) ∧ PySem.W.keepIn K (.ref f) = true ∧ Binds K fd ps [] ∧ ps.length = 1
def phiT (rs : List Nat) (n : Nat) (m : Nat → MS) : Nat → Option PyData := fun c => if rs.contains c then (match m c (.pin :: List.replicate n .no) with
  | some (.rt d _) => some d
  | _ => none) else none
theorem phiT_some {rs : List Nat} {n : Nat} {m : Nat → MS} {c : Nat} {d : PyData} (h : phiT rs n m c = some d) : rs.contains c = true ∧ ∃ δ, m c ([.pin] ++ List.replicate n .no) = some (.rt d δ) := by
  unfold phiT at h
  split at h
  · rename_i hc
    refine ⟨hc, ?_⟩
    split at h
    · rename_i d' δ e
      cases h
      exact ⟨δ, e⟩
    · cases h
  · cases h
theorem tok {Y : Lay} {x y : Str} {st : Stmt} {N : List Str} {k : Nat} {m : Nat → MS} {rs : List Nat} (D : DefF K mg x x st [y]) (S : FnScope N [y] (defScope st))
    (hb : ∀ (f : Addr) (cdv : Value) (A : Around) (outer : List Env) (s : Shared) (H : Hp) (p : Addr × Obj) (c : Nat), rs.contains c = true → Zc (.ref (Y.ex c)) none p.2 → (∃ vs, p.2.data = .fields vs) → HotC (cxH C8.CX0 P w K mg base N x (defScope st) f cdv A outer s H C8.E0 p) → RoomH k (A.deeper (PyProof.Rows.envOfC x (defScope st) s.heap.objs.size f cdv)) →
      PBd (cxH C8.CX0 P w K mg base N x (defScope st) f cdv A outer s H C8.E0 p) ⟨{ Y with exa := p.1 }, K, [.ref p.1]⟩ W0 (defBody st) (m c)) :
    TOk P w K mg base Y (k + 1) x (phiT rs (N.length - 1) m) := by
  obtain ⟨f, fd, F, hm, b⟩ := D.ex
  obtain ⟨oc, od, kV, doc, pm, an, cdv, ct, osl, rfl, lk, hcd⟩ := F.ex
  refine ⟨f, _, [y], fn_ofT lk hcd S (fun c d h => (phiT_some h).2) (fun A outer s H p c d h hot hz hr => hb f cdv A outer s H p c (phiT_some h).1 hz ⟨_, hot.2.choose_spec.1⟩ ⟨p, ⟨hot.1, hot.2⟩, List.mem_cons_self⟩ hr), hm, F.kp, b, rfl⟩
/-- a def whose code object is known -/
structure DefC (K : PySem.W.Frag) (mg : Str → Option Value) (x qual : Str) (st : Stmt) (ps : List Str) (c : Addr) : Prop where
  ex : ∃ (f : Addr) (fd : FuncData), (∃ (oc : Value) (od : Option Addr) (kV doc pm : Value) (an : Option Addr) (ct : Value) (osl : Array (Option Value)),
    fd = PySem.W.fnOf x qual (defArgs st) (defBody st) (defScope st) .none kV doc pm an (.ref c) ct ∧ K.lookup f = some ⟨oc, od, .func fd, osl⟩ ∧ PySem.W.codeIn K (.ref c) qual = true) ∧ PySem.W.keepIn K (.ref f) = true ∧ mg x = some (.ref f) ∧ Binds K fd ps []
theorem DefC.defF {x qual : Str} {st : Stmt} {ps : List Str} {c : Addr} (D : DefC K mg x qual st ps c) : DefF K mg x qual st ps := by
  obtain ⟨f, fd, ⟨oc, od, kV, doc, pm, an, ct, osl, h1, h2, h3⟩, h4, h5, h6⟩ := D.ex
  exact ⟨f, fd, ⟨⟨oc, od, kV, doc, pm, an, .ref c, ct, osl, h1, h2, h3⟩, h4⟩, h5, h6⟩
theorem dokC {Y : Lay} {x qual : Str} {st : Stmt} {N ps : List Str} {k : Nat} {m : MS} {c : Addr} (D : DefC K mg x qual st ps c) (S : FnScope N ps (defScope st))
    (hb : ∀ (f : Addr) (A : Around) (outer : List Env) (s : Shared) (H : Hp) (vs : List V) (E : XK), Room k (A.deeper (PyProof.Rows.envOfC qual (defScope st) s.heap.objs.size f (.ref c))) → vs.length = ps.length →
      PBd (cxOf (L2N.CX P w) P w K mg base N qual (defScope st) f (.ref c) A outer s H E) ⟨Y, K, vs⟩ (wOf E) (defBody st) m) :
    DOk P w K mg base Y (k + 1) x ps.length (fnPhi (N.length - ps.length) m) := by
  obtain ⟨f, fd, ⟨oc, od, kV, doc, pm, an, ct, osl, rfl, lk, hcd⟩, kp, hm, b⟩ := D.ex
  refine ⟨f, _, ps, ⟨?_, ?_⟩, hm, kp, b⟩
  · exact fun vs H Q E h => h.1
  · have := fn_of (CX := L2N.CX P w) (k := k) (base := base) (mg := mg) (sp := spD Y K ps.length (fnPhi (N.length - ps.length) m)) lk hcd S (fun vs H Q E h => h.1) fun A outer s H vs Q E hr h => ⟨_, hb f A outer s H vs E hr h.1, ?_⟩
    · exact this.run
    · obtain ⟨hl, ss, w0, F, SA, q⟩ := h
      have ek : N.length - vs.length = N.length - ps.length := by rw [hl]
      refine ⟨ss ++ List.replicate (N.length - ps.length) .no, w0, F, ?_, ?_⟩
      · show SOk Y K vs F H (L2.start N vs) _ w0
        unfold L2.start
        rw [ek]
        exact argOk_start SA _
      · unfold fnPhi at q
        simp only [tStAt]
        cases e : m (ss ++ List.replicate (N.length - ps.length) .no) with
        | none => rw [e] at q; exact q.elim
        | some r =>
          rw [e] at q
          cases r with
          | nx δ => exact fun σ' w' F' H' S' g => q .non F' H' _ (argOk_end SA g.ff S') (g.mono (fun _ h => h) fun b h => .inl (backW_has h)) .non
          | rt d δ => exact fun v σ' w' F' H' S' g hv => q v F' H' _ (argOk_end SA g.ff S') (g.mono (fun _ h => h) fun b h => .inl (backW_has h)) hv
          | ex c δ => exact fun σ' w' F' H' S' g => q F' H' _ (argOk_end SA g.ff S') (g.mono (fun _ h => h) fun b h => .inl (backW_has h))
theorem rok {Y : Lay} {x qual : Str} {st : Stmt} {N ps : List Str} {k : Nat} {e : Expr} {pos : Pos} {m : M (List (List PyData))} (D : DefF K mg x qual st ps) (S : FnScope N ps (defScope st))
    (hb : ∀ (f : Addr) (cdv : Value) (A : Around) (outer : List Env) (s : Shared) (H : Hp) (vs : List V) (E : XK), Room k (A.deeper (PyProof.Rows.envOfC qual (defScope st) s.heap.objs.size f cdv)) → vs.length = ps.length →
      PE (cxOf (L2N.CX P w) P w K mg base N qual (defScope st) f cdv A outer s H E) e (tLO ⟨Y, K, vs⟩ (wOf E) m)) (he : defBody st = [.Return (some e) pos]) :
    ROk P w K mg base Y (k + 1) x ps.length (fnPhiR (N.length - ps.length) m) := by
  obtain ⟨f, fd, F, hm, b⟩ := D.ex
  exact ⟨f, fd, ps, fn_dataR Y F S (fun cdv A outer s H vs E hr hl => hb f cdv A outer s H vs E hr hl) he, hm, F.kp, b⟩
end
end RH

/-! The data layer, part 24: instances of the program's classes. -/
namespace RH
open PySem PySem.Spec L2

/-! ### makings and calls of methods, what is raised told at the slots -/
section
variable {X : Cx} {CX : CXT} {k : Nat} {f C : Addr} {fd : FuncData} {ps : List Str} {sp : Sp} {E : St → XK} {x m : Str} {p pos apos : Pos} {e o : Expr} {es : List Expr} {ta : TE} {t : TA}
def tMethS (C : Addr) (m : Str) (sp : Sp) (E : St → XK) (ta : TE) (t : TA) : TE := fun σ H Q => ta σ H fun x H1 => ∃ a dx fs, x = .ref a ∧ H1 a = some (.ins C dx fs) ∧ fs.lookup m = none ∧ t σ H1 fun vs H2 => sp (x :: vs) H2 Q (E σ)
def tMakeS (C : Addr) (sp : Sp) (E : St → XK) (t : TA) : TE := fun σ H Q => t σ H fun vs H1 => ∀ x dx, H1 x = none → H1 dx = none → dx ≠ x →
  sp (.ref x :: vs) (upd (upd H1 dx (.own x)) x (.ins C dx [])) (fun v H2 => v = .non ∧ Q (.ref x) H2) (E σ)
theorem run_makeS {pins : List (Addr × Obj)} {σ : St} {H : Hp} {s : Shared} {Q : VK} {us : List Value} {vs : List V} (M : Mk X.K C f) (F : FnOk X.prog X.w X.K X.mg X.base CX k f fd ps sp) (hr : Room (k + 1) X.A) (hb : Binds X.K fd ps [])
    (hx : PassesAt CX X σ (E σ)) (I : Inv X pins σ H s) (r : Vals vs us)
    (h : ∀ x dx, H x = none → H dx = none → dx ≠ x → sp (.ref x :: vs) (upd (upd H dx (.own x)) x (.ins C dx [])) (fun v H2 => v = .non ∧ Q (.ref x) H2) (E σ)) :
    wpAny (model X.prog X.w) X.A (call (.ref C) us) (EP X pins σ Q) X.xe s := by
  have hq := h (s.heap.objs.size + 1) s.heap.objs.size (I.hok.fresh (Nat.le_succ _)) (I.hok.fresh (Nat.le_refl _)) (Nat.ne_of_lt (Nat.lt_succ_self _))
  have I2 := Inv.made (C := C) I
  have r2 : Vals (V.ref (s.heap.objs.size + 1) :: vs) (Value.ref (s.heap.objs.size + 1) :: us) := .cons rfl r
  have hl : (Value.ref (s.heap.objs.size + 1) :: us).length = ps.length := by
    have e := r2.length
    rw [F.len _ _ _ _ hq] at e
    exact e.symm
  have b := hb _ (Value.ref (s.heap.objs.size + 1) :: us) I2.kIn (by rw [List.append_nil]; exact hl)
  rw [List.append_nil] at b
  refine wpAny_call (make_map (f := f) I.kIn M.makes M.init (beq_iff_eq.mp M.fn) (codeAny_mono (F.run _ X.stack _ _ ⟨Value.ref (s.heap.objs.size + 1) :: us, []⟩ (Value.ref (s.heap.objs.size + 1) :: us) _ _ (E σ) (hr.make C us [])
    (I2.env0.make C us []) b r2 hq) fun r s' hq' => ?_))
  cases r with
  | error e => exact hx pins _ _ e s' I2 hq'
  | ok fl =>
    cases fl with
    | ret u =>
      obtain ⟨v, H', I3, rv, ev, q3⟩ := I2.after hq'
      subst ev
      exact ⟨rv, ⟨V.ref (s.heap.objs.size + 1), H', I3, rfl, q3⟩⟩
    | next => exact False.elim hq'
    | brk => exact False.elim hq'
    | cont => exact False.elim hq'
theorem pe_makeS (M : Mk X.K C f) (F : FnOk X.prog X.w X.K X.mg X.base CX k f fd ps sp) (hr : Room (k + 1) X.A) (hg : Gl X x) (hm : X.mg x = some (.ref C)) (hb : Binds X.K fd ps []) (hx : ∀ σ, PassesAt CX X σ (E σ))
    (ha : PA X (e :: es) t) (hdb : (x == ("__debug__" : Str)) = false := by decide) (he : starEach (e :: es) X.env = (false, eval e X.env) :: starEach es X.env := by rfl) (hpl : (backTo pos (starEach es X.env)).any (·.1) = false := by rfl) :
    PE X (.Call (.Name x p) (e :: es) [] pos) (tMakeS C sp E t) := by
  refine ⟨fun pins s σ H Q I h => ?_⟩
  refine wpAny_Call_Name_kw (ld_glob I hg hm ?_ hdb)
  refine PySem.W.callWith_K (h₀ := X.base) I.ok.mod.kin M.kp (thn (ha.run pos pins s σ H _ I h) fun us s1 ⟨vs, H1, I1, r, q⟩ => ⟨I1.kIn, ?_⟩) he hpl
  exact run_makeS M F hr hb (hx σ) I1 r q
theorem pe_methS {pl : Sem Bool} (he : PE X o ta) (c : Cls X.K C) (hm : Meth X.K C m f) (F : FnOk X.prog X.w X.K X.mg X.base CX k f fd ps sp) (hr : Room k X.A) (hb : Binds X.K fd ps []) (hx : ∀ σ, PassesAt CX X σ (E σ)) (ha : PA X (e :: es) t)
    (hst : starEach (e :: es) X.env = (false, eval e X.env) :: starEach es X.env := by rfl) (hpl : (backTo pos (starEach es X.env)).any (·.1) = false := by rfl)
    (ht : eval (.Call (.Attribute o m apos) (e :: es) [] pos) X.env = (do
      let ov ← eval o X.env
      standAt apos.atName
      let (f, first) ← holding [ov] (getMethod ov m pl)
      callWith pos f first (backTo pos (starEach (e :: es) X.env)) (backToKw pos (keywordEach [] X.env))) := by rfl) :
    PE X (.Call (.Attribute o m apos) (e :: es) [] pos) (tMethS C m sp E ta t) := by
  refine ⟨fun pins s σ H Q I h => ?_⟩
  refine PySem.W.methodCall_KW (pl := pl) (thn (he.run pins s σ H _ I h) fun u s1 ⟨x, H1, I1, rx, a, dx, fs, ex, ea, l, q⟩ => ?_) ht
  subst ex
  obtain rfl : u = Value.ref a := rx
  refine getmeth_ok I1 ea c hm l ?_
  refine PySem.W.callWith_K (first := [.ref a]) (h₀ := X.base) I.ok.mod.kin hm.kp (thn (ha.run pos pins s1 σ H1 _ I1 q) fun us s2 ⟨vs, H2, I2, r, q2⟩ => ⟨I2.kIn, ?_⟩) hst hpl
  exact run_fnS (us := .ref a :: us) (vs := .ref a :: vs) F hr hb (hx σ) I2 (.cons rfl r) q2
theorem pe_methS0 {pl : Sem Bool} (he : PE X o ta) (c : Cls X.K C) (hm : Meth X.K C m f) (F : FnOk X.prog X.w X.K X.mg X.base CX k f fd ps sp) (hr : Room k X.A) (hb : Binds X.K fd ps []) (hx : ∀ σ, PassesAt CX X σ (E σ))
    (ht : eval (.Call (.Attribute o m apos) [] [] pos) X.env = (do
      let ov ← eval o X.env
      standAt apos.atName
      let (f, first) ← holding [ov] (getMethod ov m pl)
      callWith pos f first (backTo pos (starEach [] X.env)) (backToKw pos (keywordEach [] X.env))) := by rfl) :
    PE X (.Call (.Attribute o m apos) [] [] pos) (tMethS C m sp E ta tNil) := by
  refine ⟨fun pins s σ H Q I h => ?_⟩
  refine PySem.W.methodCall_KW (pl := pl) (thn (he.run pins s σ H _ I h) fun u s1 ⟨x, H1, I1, rx, a, dx, fs, ex, ea, l, q⟩ => ?_) ht
  subst ex
  obtain rfl : u = Value.ref a := rx
  refine getmeth_ok I1 ea c hm l ?_
  exact PySem.W.callWith_K0 (first := [.ref a]) I1.kIn hm.kp (run_fnS (us := [.ref a]) (vs := [.ref a]) F hr hb (hx σ) I1 (.cons rfl .nil) q)
end

/-! ### fields -/
def putFl (f : Str) (v : Fld) : List (Str × Fld) → List (Str × Fld)
  | [] => [(f, v)]
  | (g, x) :: r => if g = f then (g, v) :: r else (g, x) :: putFl f v r
section
variable {Y : Lay} {K : PySem.W.Frag} {F H : Hp}
theorem flds_len : ∀ {vs : List (Str × V)} {fs : List (Str × Fld)} {ws : List Addr}, FldsOk Y K F H vs fs ws → vs.length = fs.length
  | _, _, _, .nil => rfl
  | _, _, _, .cons _ t => congrArg (· + 1) (flds_len t)
theorem flds_look : ∀ {vs : List (Str × V)} {fs : List (Str × Fld)} {ws : List Addr} {n : Str} {x : Fld}, FldsOk Y K F H vs fs ws → fs.lookup n = some x → ∃ v w, vs.lookup n = some v ∧ FldOk Y K F H v x w
  | _, _, _, _, _, .nil, e => by cases e
  | _, _, _, n, x, .cons (n := n') h t, e => by
    rw [List.lookup_cons] at e ⊢
    cases q : n == n' with
    | true =>
      rw [q] at e
      cases e
      exact ⟨_, _, rfl, h⟩
    | false =>
      rw [q] at e
      exact flds_look t e
theorem flds_miss : ∀ {vs : List (Str × V)} {fs : List (Str × Fld)} {ws : List Addr} {n : Str}, FldsOk Y K F H vs fs ws → fs.lookup n = none → vs.lookup n = none
  | _, _, _, _, .nil, _ => rfl
  | _, _, _, n, .cons (n := n') h t, e => by
    rw [List.lookup_cons] at e ⊢
    cases q : n == n' with
    | true =>
      rw [q] at e
      cases e
    | false =>
      rw [q] at e
      exact flds_miss t e
theorem flds_put {f : Str} {v : V} {x : Fld} {w : List Addr} (hx : FldOk Y K F H v x w) : ∀ {vs : List (Str × V)} {fs : List (Str × Fld)} {ws : List Addr}, FldsOk Y K F H vs fs ws → (ws ++ w).Nodup →
    ∃ ws', FldsOk Y K F H (putF f v vs) (putFl f x fs) ws' ∧ (∀ a ∈ ws', a ∈ ws ∨ a ∈ w) ∧ ws'.Nodup
  | _, _, _, .nil, hd => by
    refine ⟨w ++ [], .cons hx .nil, fun a h => .inr (by simpa using h), ?_⟩
    simpa using hd
  | _, _, _, .cons (n := n') (w := w1) (ws := ws1) h t, hd => by
    by_cases q : n' = f
    · refine ⟨w ++ ws1, ?_, fun a ha => ?_, ?_⟩
      · unfold putF putFl
        rw [if_pos q, if_pos q]
        exact .cons hx t
      · rcases List.mem_append.mp ha with h | h
        · exact .inr h
        · exact .inl (List.mem_append_right _ h)
      · rw [List.append_assoc] at hd
        have h2 := (List.nodup_append.mp hd).2.1
        rw [List.nodup_append] at h2 ⊢
        exact ⟨h2.2.1, h2.1, fun a ha b hb e => h2.2.2 b hb a ha e.symm⟩
    · rw [List.append_assoc] at hd
      have h2 := List.nodup_append.mp hd
      obtain ⟨ws', h3, h4, h5⟩ := flds_put hx t h2.2.1
      refine ⟨w1 ++ ws', ?_, fun a ha => ?_, ?_⟩
      · unfold putF putFl
        rw [if_neg q, if_neg q]
        exact .cons h h3
      · rcases List.mem_append.mp ha with h | h
        · exact .inl (List.mem_append_left _ h)
        · rcases h4 a h with h | h
          · exact .inl (List.mem_append_right _ h)
          · exact .inr h
      · rw [List.nodup_append]
        refine ⟨h2.1, h5, fun a ha b hb e => ?_⟩
        rcases h4 b hb with h | h
        · exact h2.2.2 a ha b (List.mem_append_left _ h) e
        · exact h2.2.2 a ha b (List.mem_append_right _ h) e
end

/-! ### the functions -/
/-- the attribute f of the instance in slot i -/
def mfld (c i : Nat) (f : Str) : M PyData := fun δ => match δ[i]? with
  | some (.own (.ins c' fs)) => if c' = c then (match fs.lookup f with
    | some (.val d) => some (.ok d δ)
    | _ => none) else none
  | _ => none
def putI (c i : Nat) (f : Str) (x : Fld) (δ : List Slot) : Option SR := match δ[i]? with
  | some (.own (.ins c' fs)) => if c' = c ∧ fs.length < 1000 then some (.nx (δ.set i (.own (.ins c (putFl f x fs))))) else none
  | _ => none
def ssetF (c i : Nat) (f : Str) (m : M PyData) : MS := sbind m fun d δ => putI c i f (.val d) δ
def ssetFO (c i : Nat) (f : Str) (m : M (List PyData)) : MS := sbind m fun xs δ => putI c i f (.own (.lst xs)) δ
abbrev Inst := Nat × List (Str × Fld)
/-- a new instance of class c -/
def mnew (c n : Nat) (φ : Phi) (ms : M (List PyData)) : M Inst := mbind ms fun ds δ => if ds.length + 1 = n then (match φ (.own (.ins c []) :: ds.map .val) with
  | some (.ok .none (.own (.ins c' fs) :: _)) => some (.ok (c', fs) δ)
  | some (.ex k _) => some (.ex k δ)
  | _ => none) else none
/-- a method of a new instance that is not kept -/
def mmethN (c n : Nat) (m : Str) (φ : Phi) (mn : M Inst) (ms : M (List PyData)) : M PyData := mbind mn fun o => if o.1 = c ∧ (o.2.lookup m).isNone then (mbind ms fun ds δ => if ds.length + 1 = n then (match φ (.own (.ins o.1 o.2) :: ds.map .val) with
  | some (.ok d _) => some (.ok d δ)
  | some (.ex k _) => some (.ex k δ)
  | none => none) else none) else fun _ => none
/-- a new instance, not kept -/
def mdrop (mn : M Inst) : M PyData := mbind mn fun _ => mpure .none
def ssetN (i : Nat) (m : M Inst) : MS := sbind m fun o δ => some (.nx (δ.set i (.own (.ins o.1 o.2))))

section
variable {Y : Lay} {K : PySem.W.Frag} {vs0 : List V} {F H : Hp} {σ : St} {δ : List Slot} {w : Wn}
theorem SOk.insI (S : SOk Y K vs0 F H σ δ w) {i c : Nat} {fs : List (Str × Fld)} (e : δ[i]? = some (.own (.ins c fs))) :
    ∃ p dx vs ws, σ[i]? = some (some (.ref p)) ∧ H p = some (.ins (Y.cl c) dx vs) ∧ FldsOk Y K F H vs fs ws ∧ (p :: ws).Nodup ∧ w i = p :: ws := by
  have h := S.at_ i _ e
  cases q : σ[i]? with
  | none =>
    rw [q] at h
    cases h
  | some o =>
    rw [q] at h
    generalize hw : w i = wi at h
    have h' : SlotOk Y K F H o (.own (.ins c fs)) wi := h
    cases h' with
    | own h' =>
      cases h' with
      | ins h1 h2 h3 => exact ⟨_, _, _, _, rfl, h1, h2, h3, rfl⟩
/-- the instance of slot i gets a field -/
theorem SOk.putI (S : SOk Y K vs0 F H σ δ w) {i c : Nat} {fs : List (Str × Fld)} {f : Str} {v : V} {x : Fld} {wx : List Addr} (e : δ[i]? = some (.own (.ins c fs))) {p dx : Addr} {vs : List (Str × V)} (hσ : σ[i]? = some (some (.ref p))) (hp : H p = some (.ins (Y.cl c) dx vs))
    (hx : FldOk Y K F H v x wx) (hd : wx.Nodup) (nF : ∀ a ∈ wx, F a = none) (nw : ∀ a ∈ wx, ¬ w.has a) :
    ∃ w', SOk Y K vs0 F (upd H p (.ins (Y.cl c) dx (putF f v vs))) σ (δ.set i (.own (.ins c (putFl f x fs)))) w' ∧ ∀ (W : Addr → Prop) (F0 H0 : Hp), (∀ a ∈ wx, H0 a = none) → Step W F0 H0 F H w.has → Step W F0 H0 F (upd H p (.ins (Y.cl c) dx (putF f v vs))) w'.has := by
  obtain ⟨p', dx', vs', ws, h1, h2, h3, h4, h5⟩ := S.insI e
  rw [hσ] at h1
  cases h1
  rw [hp] at h2
  cases h2
  have pi : p ∈ w i := by rw [h5]; exact List.mem_cons_self
  have nFp : F p = none := S.nof i p pi
  have il : i < δ.length := (List.getElem?_eq_some_iff.mp e).1
  have px : p ∉ wx := fun z => nw p z ⟨i, pi⟩
  have pw : p ∉ ws := (List.nodup_cons.mp h4).1
  have kx : FldOk Y K F (upd H p (.ins (Y.cl c) dx (putF f v vs))) v x wx := fld_ext (Grw.refl F) (fun q hq ho h _ => by rw [upd_ne (fun z => px (by rw [← z]; exact hq))]; exact h) hx
  have kf : FldsOk Y K F (upd H p (.ins (Y.cl c) dx (putF f v vs))) vs fs ws := flds_ext (Grw.refl F) (fun q hq ho h _ => by rw [upd_ne (fun z => pw (by rw [← z]; exact hq))]; exact h) h3
  have nd : (ws ++ wx).Nodup := List.nodup_append.mpr ⟨(List.nodup_cons.mp h4).2, hd, fun a ha b hb e => nw b hb ⟨i, by rw [h5, ← e]; exact List.mem_cons_of_mem _ ha⟩⟩
  obtain ⟨ws', g1, g2, g3⟩ := flds_put (f := f) kx kf nd
  have ne : ∀ {b : Addr} {o : HO}, H b = some o → (∀ C d xs, o ≠ .ins C d xs) → b ≠ p := fun {b o} e n z => by
    rw [z, hp] at e
    exact n _ _ _ (Option.some.inj e).symm
  have pn : p ∉ ws' := fun z => (g2 p z).elim pw px
  have sub' : ∀ a ∈ p :: ws', a ∈ w i ∨ a ∈ wx := fun a ha => by
    rcases List.mem_cons.mp ha with z | z
    · exact .inl (by rw [z]; exact pi)
    · rcases g2 a z with z | z
      · exact .inl (by rw [h5]; exact List.mem_cons_of_mem _ z)
      · exact .inr z
  refine ⟨w.put i (p :: ws'), ?_, fun W F0 H0 h0 g => ?_⟩
  · exact
      { len := by rw [List.length_set]; exact S.len
        sub := fun b o q => by rw [upd_ne (ne_of_none q nFp)]; exact S.sub b o q
        tab := fun q hq => by
          obtain ⟨ps, h1, h2, h3⟩ := S.tab q hq
          refine ⟨ps, by rw [upd_ne (ne h1 fun _ _ _ z => by cases z)]; exact h1, h2, fun pos cv hc => ?_⟩
          obtain ⟨b, e1, e2⟩ := h3 pos cv hc
          exact ⟨b, e1, by rw [upd_ne (ne e2 fun _ _ _ z => by unfold LamX.CodeO at z; cases z)]; exact e2⟩
        ntb := S.ntb
        at_ := fun j t q => by
          by_cases hj : j = i
          · subst hj
            rw [List.getElem?_set_self il] at q
            cases q
            rw [Wn.put_self, hσ]
            exact .own (.ins upd_same g1 (List.nodup_cons.mpr ⟨pn, g3⟩))
          · rw [List.getElem?_set_ne (Ne.symm hj)] at q
            rw [Wn.put_ne hj]
            exact slot_ext (Grw.refl F) (fun b hb ho h _ => by rw [upd_ne (fun z => hj (S.dis j i b hb (by rw [z]; exact pi)))]; exact h) (S.at_ j t q)
        emp := fun j q => by
          by_cases hj : j = i
          · subst hj
            rw [List.getElem?_set_self il] at q
            cases q
          · rw [List.getElem?_set_ne (Ne.symm hj)] at q
            rw [Wn.put_ne hj]
            exact S.emp j q
        nof := fun j a ha => by
          by_cases hj : j = i
          · subst hj
            rw [Wn.put_self] at ha
            exact (sub' a ha).elim (S.nof j a) (nF a)
          · rw [Wn.put_ne hj] at ha
            exact S.nof j a ha
        dis := fun j k a ha hb => by
          have cross : ∀ l, l ≠ i → a ∈ w l → a ∈ p :: ws' → False := fun l hl h1 h2 => by
            rcases sub' a h2 with z | z
            · exact hl (S.dis l i a h1 z)
            · exact nw a z ⟨l, h1⟩
          by_cases hj : j = i
          · by_cases hk : k = i
            · rw [hj, hk]
            · rw [hj, Wn.put_self] at ha
              rw [Wn.put_ne hk] at hb
              exact (cross k hk hb ha).elim
          · rw [Wn.put_ne hj] at ha
            by_cases hk : k = i
            · rw [hk, Wn.put_self] at hb
              exact (cross j hj ha hb).elim
            · rw [Wn.put_ne hk] at hb
              exact S.dis j k a ha hb
        par := fun j v o h1 h2 => by
          by_cases hj : j = i
          · subst hj
            exact S.par j v _ h1 e
          · rw [List.getElem?_set_ne (Ne.symm hj)] at h2
            exact S.par j v o h1 h2 }
  · refine ⟨g.ff, fun b o n h t => ?_, fun b h => ?_, g.prot, fun b hb => ?_⟩
    · rw [upd_ne (fun z => ?_)]
      · exact g.keep b o n h t
      · rcases g.ownd b ⟨i, by rw [z]; exact pi⟩ with q | q
        · exact n q
        · rw [h] at q
          cases q
    · by_cases q : b = p
      · rw [q, upd_same]; simp
      · rw [upd_ne q]; exact g.live b h
    · rcases Wn.put_has hb with z | z
      · rcases sub' b z with z | z
        · exact g.ownd b ⟨i, z⟩
        · exact .inr (h0 b z)
      · exact g.ownd b z
end
end RH

/-! The data layer, part 25: instances in slots, new instances. -/
namespace RH
open PySem PySem.Spec L2

/-- a step behind new objects, of one that changes new objects alone -/
theorem Step.fresh {V W W' V' : Addr → Prop} {F H F1 H1 F' H' : Hp} (a : Alc F H F1 H1) (g : Step W F1 H1 F' H' W') (n : ∀ b, W b → H b = none) (hv : ∀ b, V' b → V b) : Step V F H F' H' V' where
  ff := a.ff.trans g.ff
  keep := fun b o _ hb t => g.keep b o (fun z => by rw [n b z] at hb; cases hb) (a.hh b o hb) t
  live := fun b hb => g.live b (by
    cases q : H b with
    | none => exact absurd q hb
    | some o => rw [a.hh b o q]; simp)
  prot := fun b hb hF _ => g.prot b (by
    cases q : H b with
    | none => exact absurd q hb
    | some o => rw [a.hh b o q]; simp) (a.prot b hb hF) fun z => hb (n b z)
  ownd := fun b z => .inl (hv b z)
theorem Step.thenF {V W W' V1 : Addr → Prop} {F H F1 H1 F' H' : Hp} (a : Step V F H F1 H1 V1) (g : Step W F1 H1 F' H' W') (n : ∀ b, W b → H b = none) : Step V F H F' H' V1 where
  ff := a.ff.trans g.ff
  keep := fun b o h1 h2 t => g.keep b o (fun z => by rw [n b z] at h2; cases h2) (a.keep b o h1 h2 t) t
  live := fun b hb => g.live b (a.live b hb)
  prot := fun b hb hF hV => g.prot b (a.live b hb) (a.prot b hb hF hV) fun z => hb (n b z)
  ownd := a.ownd
theorem own_ins {Y : Lay} {K : PySem.W.Frag} {F H : Hp} {p : Addr} {c : Nat} {fs : List (Str × Fld)} {ws : List Addr} (h : OwnOk Y K F H p (.ins c fs) ws) : ∃ dx vs ws', ws = p :: ws' ∧ H p = some (.ins (Y.cl c) dx vs) ∧ FldsOk Y K F H vs fs ws' := by
  cases h with
  | ins h1 h2 h3 => exact ⟨_, _, _, rfl, h1, h2⟩
section
variable {Y : Lay} {K : PySem.W.Frag} {vs0 : List V} {F H F' H' : Hp} {σ : St} {δ : List Slot} {w ws' : Wn}
/-- the arguments: one object that the caller does not keep, then values -/
theorem argOk_fresh (S : SOk Y K vs0 F H σ δ w) {p : Addr} {o : Own} {ws : List Addr} (ho : OwnOk Y K F H p o ws) (nF : ∀ a ∈ ws, F a = none) {vs : List V} {ds : List PyData} (h : DpAll K F vs ds) :
    ArgOk Y K F H (.ref p :: vs) (.own o :: ds.map .val) fun j => if j = 0 then ws else [] where
  len := by simp [dps_len h]
  sub := S.sub
  tab := S.tab
  ntb := S.ntb
  at_ := fun j s e => by
    cases j with
    | zero =>
      have e' : Slot.own o = s := by simpa using e
      subst e'
      exact .own ho
    | succ j =>
      have e' : (ds.map Slot.val)[j]? = some s := by simpa using e
      rw [List.getElem?_map] at e'
      cases q : ds[j]? with
      | none => rw [q] at e'; cases e'
      | some d =>
        rw [q] at e'
        cases e'
        obtain ⟨u, h1, h2⟩ := dps_at h q
        have : ((V.ref p :: vs).map some)[j + 1]?.join = some u := by simp [h1]
        rw [this, if_neg (Nat.succ_ne_zero j)]
        exact .val h2
  emp := fun j e => by
    cases j with
    | zero => simp at e
    | succ j => rfl
  nof := fun j p hp => by
    by_cases hj : j = 0
    · rw [if_pos hj] at hp
      exact nF p hp
    · rw [if_neg hj] at hp
      simp at hp
  dis := fun j k p h1 h2 => by
    by_cases hj : j = 0
    · by_cases hk : k = 0
      · rw [hj, hk]
      · rw [if_neg hk] at h2
        simp at h2
    · rw [if_neg hj] at h1
      simp at h1
  par := fun _ _ _ h => by simp at h
/-- behind a callee that owned objects that the caller does not keep -/
theorem SOk.calledF {W : Addr → Prop} {vs : List V} {ss : List Slot} (S : SOk Y K vs0 F H σ δ w) (A : ArgOk Y K F' H' vs ss ws') (g : Step W F H F' H' ws'.has) (nw : ∀ a, W a → ¬ w.has a) : SOk Y K vs0 F' H' σ δ w where
  len := S.len
  sub := A.sub
  tab := A.tab
  ntb := A.ntb
  at_ := fun i s e => slot_ext g.ff (fun p hp ho h t => g.keep p ho (fun z => nw p z ⟨i, hp⟩) h t) (S.at_ i s e)
  emp := S.emp
  nof := fun i p h => g.prot p (S.there ⟨i, h⟩) (S.nof i p h) fun z => nw p z ⟨i, h⟩
  dis := S.dis
  par := S.par
theorem has_if {ws : List Addr} {a : Addr} (h : Wn.has (fun j => if j = 0 then ws else []) a) : a ∈ ws := by
  obtain ⟨j, hj⟩ := h
  dsimp only at hj
  split at hj
  · exact hj
  · simp at hj
end

/-! ### new instances -/
def tN (C : Lx) (Wx : WX) (m : M Inst) : TE := fun σ H Q => ∃ δ w F, C.ok F H σ δ w ∧ tAt C Wx m σ δ w F H fun cf _ w' F' H' => ∀ p ws, OwnOk C.Y C.K F' H' p (.ins cf.1 cf.2) ws → (∀ a ∈ ws, F' a = none ∧ ¬ w'.has a ∧ H a = none) → Q (.ref p) H'
abbrev PN (X : Cx) (C : Lx) (Wx : WX) (e : Expr) (m : M Inst) : Prop := PE X e (tN C Wx m)

section
variable {P : Program} {wd : World} {K : PySem.W.Frag} {mg : Str → Option Value} {base : Heap}
/-- class c, made by the name x through an __init__ that tells φ -/
structure IOk (P : Program) (w : World) (K : PySem.W.Frag) (mg : Str → Option Value) (base : Heap) (Y : Lay) (k c : Nat) (x : Str) (n : Nat) (φ : Phi) : Prop where
  ex : ∃ (f : Addr) (fd : FuncData) (ps : List Str), FnOk P w K mg base (L2N.CX P w) k f fd ps (spD Y K n φ) ∧ Mk K (Y.cl c) f ∧ mg x = some (.ref (Y.cl c)) ∧ L2.Binds K fd ps []
/-- the method m of class c -/
structure MOk (P : Program) (w : World) (K : PySem.W.Frag) (mg : Str → Option Value) (base : Heap) (Y : Lay) (k c : Nat) (m : Str) (n : Nat) (φ : Phi) : Prop where
  ex : ∃ (f : Addr) (fd : FuncData) (ps : List Str), FnOk P w K mg base (L2N.CX P w) k f fd ps (spD Y K n φ) ∧ Cls K (Y.cl c) ∧ Meth K (Y.cl c) m f ∧ L2.Binds K fd ps []
end

section
variable {X : Cx} {C : Lx} {Wx : WX} {k j n c i : Nat} {φ : Phi} {x y f : Str} {p py pos pos' apos : Pos} {e o : Expr} {es : List Expr} {ms : M (List PyData)} {m : M PyData} {mo : M (List PyData)} {mn : M Inst}
/-- self.f -/
theorem pd_fld (c i : Nat) (hK : C.K = X.K) (hc : Cls C.K (C.Y.cl c)) (hn : NoAttr C.K (C.Y.cl c) f) (ho : OwnN X i y)
    (hb : attributeBase (.Name y py) f X.env (eval (.Name y py) X.env) = eval (.Name y py) X.env := by rfl) : PD X C Wx (.Attribute (.Name y py) f pos) (mfld c i f) := by
  refine pe_weak (pe_fld (pe_own ho) hb) fun σ H Q q => tE_use q fun δ w F S h => ?_
  simp only [tAt, mfld] at h
  cases q0 : δ[i]? with
  | none => rw [q0] at h; exact h.elim
  | some s0 =>
    rw [q0] at h
    cases s0 with
    | no => exact h.elim
    | pin => exact h.elim
    | val => exact h.elim
    | own o0 =>
      cases o0 with
      | b => exact h.elim
      | ins c' fs =>
        dsimp only at h
        by_cases hcc : c' = c
        · subst hcc
          rw [if_pos rfl] at h
          cases q1 : fs.lookup f with
          | none => rw [q1] at h; exact h.elim
          | some fl =>
            rw [q1] at h
            cases fl with
            | own => exact h.elim
            | val d =>
              dsimp only at h
              obtain ⟨a, dx, vs, ws, e1, e2, e3, e4, e5⟩ := S.insI q0
              obtain ⟨v, w', e6, e7⟩ := flds_look e3 q1
              cases e7 with
              | val e7 =>
                rw [← hK]
                exact ⟨_, e1, a, _, dx, vs, v, rfl, e2, hc, hn, e6, h w F H S S.here v e7⟩
        · rw [if_neg hcc] at h
          exact h.elim
theorem putI_some {c i : Nat} {f : Str} {z : Fld} {δ : List Slot} {D : Ends} {w : Wn} {F H : Hp} (h : tStAt C Wx (fun δ => putI c i f z δ) D δ w F H) : ∃ fs, δ[i]? = some (.own (.ins c fs)) ∧ fs.length < 1000 ∧
    ∀ σ' w' F' H', C.ok F' H' σ' (δ.set i (.own (.ins c (putFl f z fs)))) w' → Step w.has F H F' H' w'.has → D.nx σ' H' := by
  simp only [tStAt, putI] at h
  cases q0 : δ[i]? with
  | none => rw [q0] at h; exact h.elim
  | some s0 =>
    rw [q0] at h
    cases s0 with
    | no => exact h.elim
    | pin => exact h.elim
    | val => exact h.elim
    | own o0 =>
      cases o0 with
      | b => exact h.elim
      | ins c' fs =>
        dsimp only at h
        by_cases hcc : c' = c ∧ fs.length < 1000
        · rw [if_pos hcc] at h
          obtain ⟨rfl, hl⟩ := hcc
          exact ⟨fs, rfl, hl, h⟩
        · rw [if_neg hcc] at h
          exact h.elim
/-- self.f = e, a value -/
theorem pd_setF (c i : Nat) (hK : C.K = X.K) (hc : Cls C.K (C.Y.cl c)) (hn : NoAttr C.K (C.Y.cl c) f) (ho : OwnN X i y) (he : PD X C Wx e m)
    (hs : swapsWith e (some (.Attribute (.Name y py) f pos')) pos.line X.env = pure false := by rfl) : PSd X C Wx (.Assign [.Attribute (.Name y py) f pos'] e pos) (ssetF c i f m) := by
  refine ps_weak (ps_fld (pe_own ho) he hs) fun D σ H q => ?_
  obtain ⟨δ, w, F, S, h⟩ := q
  refine tSt_then S h fun d δ1 w1 F1 H1 v S1 g1 hv h1 => ?_
  obtain ⟨fs, q0, hl, h2⟩ := putI_some h1
  obtain ⟨a, dx, vs, ws, e1, e2, e3, e4, e5⟩ := S1.insI q0
  rw [← hK]
  obtain ⟨w2, S2, g2⟩ := S1.putI (f := f) (v := v) (x := .val d) (wx := []) q0 e1 e2 (.val hv) List.nodup_nil (fun _ z => by simp at z) (fun _ z => by simp at z)
  exact ⟨_, e1, a, _, dx, vs, rfl, e2, hc, hn, by rw [flds_len e3]; exact hl, h2 σ w2 F1 _ S2 (g2 _ F1 H1 (fun _ z => by simp at z) S1.here)⟩
/-- self.f = e, a new list -/
theorem pd_setFO (c i : Nat) (hK : C.K = X.K) (hc : Cls C.K (C.Y.cl c)) (hn : NoAttr C.K (C.Y.cl c) f) (ho : OwnN X i y) (he : PO X C Wx e mo)
    (hs : swapsWith e (some (.Attribute (.Name y py) f pos')) pos.line X.env = pure false := by rfl) : PSd X C Wx (.Assign [.Attribute (.Name y py) f pos'] e pos) (ssetFO c i f mo) := by
  refine ps_weak (ps_fld (pe_own ho) he hs) fun D σ H q => ?_
  obtain ⟨δ, w, F, S, h⟩ := q
  refine ⟨δ, w, F, S, tAt_mono (tSt_bind0 h) fun xs δ1 w1 F1 H1 S1 g1 h1 p vs h0 hp nF nw hv => ?_⟩
  obtain ⟨fs, q0, hl, h2⟩ := putI_some h1
  obtain ⟨a, dx, vs', ws, e1, e2, e3, e4, e5⟩ := S1.insI q0
  rw [← hK]
  obtain ⟨w2, S2, g2⟩ := S1.putI (f := f) (v := .ref p) (x := .own (.lst xs)) (wx := [p]) q0 e1 e2 (.own ⟨_, hp, vs, rfl, hv⟩) (by simp) (fun a z => by rw [List.mem_singleton.mp z]; exact nF) (fun a z => by rw [List.mem_singleton.mp z]; exact nw)
  refine ⟨_, e1, a, _, dx, vs', rfl, e2, hc, hn, by rw [flds_len e3]; exact hl, h2 σ w2 F1 _ S2 (g2 _ F H (fun a z => by rw [List.mem_singleton.mp z]; exact h0) g1)⟩
/-- a new instance -/
theorem pn_make (I : IOk X.prog X.w X.K X.mg X.base C.Y k c x n φ) (hK : C.K = X.K) (hr : Room j X.A) (hj : k + 1 ≤ j) (tk : L2N.Takes X Wx) (ha : PL X C Wx (e :: es) ms) (hg : Gl X x := by rfl)
    (hdb : (x == ("__debug__" : Str)) = false := by decide) (he : starEach (e :: es) X.env = (false, eval e X.env) :: starEach es X.env := by rfl) (hpl : (backTo pos (starEach es X.env)).any (·.1) = false := by rfl) :
    PN X C Wx (.Call (.Name x p) (e :: es) [] pos) (mnew c n φ ms) := by
  obtain ⟨f, fd, ps, FN, M, hm, hb⟩ := I.ex
  refine pe_weak (pe_makeS M FN (hr.mono hj) hg hm hb (fun σ => L2N.passAt tk σ) ha hdb he hpl) fun σ H Q q => ?_
  obtain ⟨δ, w, F, S, h⟩ := q
  refine ⟨δ, w, F, S, tAt_mono (tAt_bind h) fun ds δ1 w1 F1 H1 S1 g1 h1 vs hvs a dx ha hd hne => ?_⟩
  have FNa : F1 a = none := S1.sub.none ha
  have aw : ¬ w1.has a := fun z => S1.there z ha
  have al : Alc F1 H1 F1 (upd (upd H1 dx (.own a)) a (.ins (C.Y.cl c) dx [])) := by
    refine Alc.grw S1.sub (Grw.trans (Grw.new hd) (Grw.new ?_)) fun b ps z => ?_
    · rw [upd_ne (Ne.symm hne)]; exact ha
    · exact tbl_upd (fun ps z => by cases z) b ps (tbl_upd (fun ps z => by cases z) b ps z)
  have S2 := S1.alc al
  have oo : OwnOk C.Y C.K F1 (upd (upd H1 dx (.own a)) a (.ins (C.Y.cl c) dx [])) a (.ins c []) [a] := .ins upd_same .nil (by simp)
  simp only [tAt] at h1
  by_cases hl : ds.length + 1 = n
  · rw [if_pos hl] at h1
    rw [← hK]
    refine ⟨by rw [List.length_cons, dps_len hvs]; exact hl, .own (.ins c []) :: ds.map .val, _, F1, argOk_fresh S2 oo (fun b hb => by rw [List.mem_singleton.mp hb]; exact FNa) hvs, ?_⟩
    cases e2 : φ (.own (.ins c []) :: ds.map .val) with
    | none => rw [e2] at h1; exact h1.elim
    | some o2 =>
      rw [e2] at h1
      cases o2 with
      | ok d ss =>
        cases ss with
        | nil => cases d <;> exact h1.elim
        | cons s ss =>
          cases d <;> try exact h1.elim
          cases s <;> try exact h1.elim
          rename_i o3
          cases o3 with
          | b => exact h1.elim
          | ins c' fs =>
            intro v F' H' w' A g hv
            cases hv
            refine ⟨rfl, ?_⟩
            have Sc : C.ok F' H' σ δ1 w1 := S2.calledF A g fun b z => by rw [List.mem_singleton.mp (has_if z)]; exact aw
            have gc : Step w1.has F1 H1 F' H' w1.has := Step.fresh al g (fun b z => by rw [List.mem_singleton.mp (has_if z)]; exact ha) fun _ z => z
            have h3 := A.at_ 0 _ rfl
            have h3' : SlotOk C.Y C.K F' H' (some (.ref a)) (.own (.ins c' fs)) (w' 0) := h3
            generalize hw0 : w' 0 = w0 at h3'
            cases h3' with
            | own h3' =>
              refine h1 w1 F' H' Sc gc a w0 h3' fun b hb => ?_
              have hb' : b ∈ w' 0 := by rw [hw0]; exact hb
              have hb1 : H1 b = none := by
                rcases g.ownd b ⟨0, hb'⟩ with z | z
                · rw [List.mem_singleton.mp (has_if z)]; exact ha
                · cases q : H1 b with
                  | none => rfl
                  | some o => rw [al.hh b o q] at z; cases z
              refine ⟨A.nof 0 b hb', fun z => S1.there z hb1, ?_⟩
              cases q : H b with
              | none => rfl
              | some o => exact absurd hb1 (g1.live b (by rw [q]; simp))
      | ex c2 ss =>
        intro F' H' w' A g
        have Sc : C.ok F' H' σ δ1 w1 := S2.calledF A g fun b z => by rw [List.mem_singleton.mp (has_if z)]; exact aw
        have gc : Step w1.has F1 H1 F' H' w1.has := Step.fresh al g (fun b z => by rw [List.mem_singleton.mp (has_if z)]; exact ha) fun _ z => z
        exact h1 w1 F' H' Sc gc
  · rw [if_neg hl] at h1
    exact h1.elim
/-- x = a new instance -/
theorem pd_setN (i : Nat) (hN : X.N.Nodup) (he : PN X C Wx e mn) (hlo : C.vs0.length ≤ i) (hi : X.N[i]? = some x := by rfl) (hx : Loc X.env.scope x := by first | exact Or.inl rfl | exact Or.inr rfl) (hs : swapsWith e (some (.Name x p)) pos.line X.env = pure false := by rfl)
    (hf : X.fn x = true ∨ X.env.scope.names.lookup x = some .local := by first | exact .inl rfl | exact .inr rfl) : PSd X C Wx (.Assign [.Name x p] e pos) (ssetN i mn) := by
  have h0 := ps_set hN hi hx he hs hf
  refine ⟨fun pins s σ H D I q => h0.run pins s σ H D I ?_⟩
  obtain ⟨δ, w, F, S, h⟩ := q
  refine ⟨δ, w, F, S, tAt_mono (tSt_bind0 h) fun cf δ1 w1 F1 H1 S1 g1 h1 p ws oo hn => ?_⟩
  have hl : i < δ1.length := by
    rw [S1.len, I.len]
    exact (List.getElem?_eq_some_iff.mp hi).1
  exact h1 _ _ F1 H1 (S1.setO i hlo hl oo (fun a ha => (hn a ha).1) (fun a ha => (hn a ha).2.1)) ⟨g1.ff, g1.keep, g1.live, g1.prot, fun b z => (Wn.put_has z).elim (fun q => .inr (hn b q).2.2) (g1.ownd b)⟩
/-- a new instance that is not kept -/
theorem pd_drop (he : PN X C Wx e mn) (hs : swapsWith e none pos.line X.env = pure false := by rfl) : PSd X C Wx (.Expr e pos) (sexpr (mdrop mn)) := by
  refine ps_weak (ps_expr he hs) fun D σ H q => ?_
  obtain ⟨δ, w, F, S, h⟩ := q
  refine ⟨δ, w, F, S, tAt_mono (tAt_bind (tSt_bind h)) fun cf δ1 w1 F1 H1 S1 g1 h1 p ws oo hn => ?_⟩
  exact tAt_pure h1 w1 F1 H1 S1 S1.here σ w1 F1 H1 S1 S1.here
/-- new.m(e, ..) -/
theorem pd_methN {mt : Str} {pl : Sem Bool} (M : MOk X.prog X.w X.K X.mg X.base C.Y k c mt n φ) (hK : C.K = X.K) (hr : Room j X.A) (hj : k ≤ j) (tk : L2N.Takes X Wx) (ho : PN X C Wx o mn) (ha : PL X C Wx (e :: es) ms)
    (hst : starEach (e :: es) X.env = (false, eval e X.env) :: starEach es X.env := by rfl) (hpl : (backTo pos (starEach es X.env)).any (·.1) = false := by rfl)
    (ht : eval (.Call (.Attribute o mt apos) (e :: es) [] pos) X.env = (do
      let ov ← eval o X.env
      standAt apos.atName
      let (f, first) ← holding [ov] (getMethod ov mt pl)
      callWith pos f first (backTo pos (starEach (e :: es) X.env)) (backToKw pos (keywordEach [] X.env))) := by rfl) :
    PD X C Wx (.Call (.Attribute o mt apos) (e :: es) [] pos) (mmethN c n mt φ mn ms) := by
  obtain ⟨f, fd, ps, FN, hc, hm, hb⟩ := M.ex
  refine pe_weak (pe_methS (pl := pl) ho hc hm FN (hr.mono hj) hb (fun σ => L2N.passAt tk σ) ha hst hpl ht) fun σ H Q q => tE_use q fun δ w F S h => ?_
  refine ⟨δ, w, F, S, tAt_mono (tAt_bind0 h) fun cf δ1 w1 F1 H1 S1 g1 h1 a ws oo hn => ?_⟩
  by_cases hcf : cf.1 = c ∧ (cf.2.lookup mt).isNone
  · rw [if_pos hcf] at h1
    obtain ⟨rfl, hlk⟩ := hcf
    obtain ⟨dx, vs, ws', rfl, e1, e2⟩ := own_ins oo
    refine ⟨a, dx, vs, rfl, e1, flds_miss e2 (Option.isNone_iff_eq_none.mp hlk), δ1, w1, F1, S1, tAt_mono (tAt_step g1 (tAt_bind0 h1)) fun ds δ2 w2 F2 H2 S2 g2 h2 us hus => ?_⟩
    have nw : ∀ b ∈ a :: ws', ¬ w1.has b := fun b hb => (hn b hb).2.1
    have th : ∀ b ∈ a :: ws', H1 b ≠ none := fun b hb => own_there oo b hb
    have oo2 : OwnOk C.Y C.K F2 H2 a (.ins cf.1 cf.2) (a :: ws') := own_ext g2.ff (fun q hq ho hh t => g2.keep q ho (nw q hq) hh t) oo
    have nF2 : ∀ b ∈ a :: ws', F2 b = none := fun b hb => g2.prot b (th b hb) (hn b hb).1 (nw b hb)
    have nw2 : ∀ b ∈ a :: ws', ¬ w2.has b := fun b hb z => (g2.ownd b z).elim (nw b hb) (th b hb)
    have gg := g1.trans g2
    simp only [tAt] at h2
    by_cases hl : ds.length + 1 = n
    · rw [if_pos hl] at h2
      rw [← hK]
      refine ⟨by rw [List.length_cons, dps_len hus]; exact hl, .own (.ins cf.1 cf.2) :: ds.map .val, _, F2, argOk_fresh S2 oo2 nF2 hus, ?_⟩
      cases e3 : φ (.own (.ins cf.1 cf.2) :: ds.map .val) with
      | none => rw [e3] at h2; exact h2.elim
      | some o3 =>
        rw [e3] at h2
        cases o3 with
        | ok d ss => exact fun v F' H' w' A g hv => h2 w2 F' H' (S2.calledF A g fun b z => nw2 b (has_if z)) (gg.thenF g fun b z => (hn b (has_if z)).2.2) v hv
        | ex k ss => exact fun F' H' w' A g => h2 w2 F' H' (S2.calledF A g fun b z => nw2 b (has_if z)) (gg.thenF g fun b z => (hn b (has_if z)).2.2)
    · rw [if_neg hl] at h2
      exact h2.elim
  · rw [if_neg hcf] at h1
    exact h1.elim
end
end RH

/-! The data layer, part 26: e[::-1]; methods of classes. -/
namespace RH
open PySem PySem.Spec L2

section
open PyProof.Rows
variable {prog : Program} {w : World} {A : Around} {E : Value → Shared → Prop} {s : Shared}
theorem places_rev (n : Nat) : Builtin.Slice.slicePlaces ((n : Int) - 1) (-1) (-1) = n := by
  unfold Builtin.Slice.slicePlaces
  have h1 : ¬ ((-1 : Int) > 0) := by omega
  simp only [h1, if_false, show (- -1 : Int) = 1 by decide, Int.ediv_one]
  split <;> omega
theorem adjust_rev (n : Nat) : Builtin.Slice.sliceAdjust none none (-1) (n : Int) = ((n : Int) - 1, -1) := by
  unfold Builtin.Slice.sliceAdjust
  have h1 : ((-1 : Int) < 0) := by omega
  simp only [h1, if_true]
theorem sliceApplied_rev {sl : Addr} {t : Tok} {n : Nat} {Q : Int × Int × Nat → Shared → Prop} (hs : s.heap.IsSliceOf sl .none .none (.int (-1) t))
    (h : Q ((n : Int) - 1, -1, n) s) : wpAny (model prog w) A (Builtin.Slice.sliceApplied (.ref sl) (pure (n : Int))) Q E s := by
  obtain ⟨os, hos, hcs, hds⟩ := id hs
  unfold Builtin.Slice.sliceApplied Builtin.Slice.sliceFields
  refine wpAny_bind (wpAny_bind (wpAny_field hos hds (x := .none) rfl (wpAny_bind (wpAny_field hos hds (x := .none) rfl (wpAny_bind (wpAny_field hos hds (x := .int (-1) t) rfl (wpAny_pure ?_)))))))
  refine wpAny_bind (HT.slicePart_ (.int (-1) t) ?_)
  show wpAny _ _ (if ((-1 : Int) == 0) = true then _ else _) _ _ s
  rw [if_neg (by decide)]
  refine wpAny_bind (HT.slicePart_ .none (wpAny_bind (HT.slicePart_ .none (wpAny_bind (wpAny_pure ?_)))))
  show wpAny _ _ (match Builtin.Slice.sliceAdjust none none (-1) (n : Int) with | (lo, hi) => pure (lo, (-1 : Int), Builtin.Slice.slicePlaces lo hi (-1))) _ _ s
  rw [adjust_rev n]
  show wpAny _ _ (pure ((n : Int) - 1, (-1 : Int), Builtin.Slice.slicePlaces ((n : Int) - 1) (-1) (-1))) _ _ s
  rw [places_rev]
  exact wpAny_pure h
theorem fm_congr {α β : Type} {f g : α → Option β} : ∀ {l : List α}, (∀ a ∈ l, f a = g a) → l.filterMap f = l.filterMap g
  | [], _ => rfl
  | a :: l, h => by
    rw [List.filterMap_cons, List.filterMap_cons, h a List.mem_cons_self, fm_congr fun b hb => h b (List.mem_cons_of_mem _ hb)]
theorem pick_rev (xs : Array Value) : ((List.range xs.size).filterMap fun (m : Nat) => xs[(((xs.size : Nat) : Int) - 1 + (m : Int) * (-1)).toNat]?) = xs.toList.reverse := by
  have e : ∀ m ∈ List.range xs.size, xs[(((xs.size : Nat) : Int) - 1 + (m : Int) * (-1)).toNat]? = xs.toList.reverse[m]? := fun m hm => by
    have hm' := List.mem_range.mp hm
    have : (((xs.size : Nat) : Int) - 1 + (m : Int) * (-1)).toNat = xs.size - 1 - m := by omega
    rw [this, List.getElem?_reverse (by rw [Array.length_toList]; exact hm'), Array.length_toList, Array.getElem?_toList]
  rw [fm_congr e]
  have hl : xs.size = xs.toList.reverse.toArray.size := by simp
  rw [hl]
  have := PySem.W.krv_all xs.toList.reverse.toArray
  simpa using this
theorem getItem_tuple_rev {t sl : Addr} {items : Array Value} {tk : Tok} {Q : Value → Shared → Prop} (ht : IsTup s.heap t items) (hs : s.heap.IsSliceOf sl .none .none (.int (-1) tk))
    (h : Q (.ref s.heap.objs.size) { s with heap := s.heap.push { cls := .type "tuple", data := .seq items.toList.reverse.toArray } })
    (hsz : items.size ≤ sizeLine) : wpAny (model prog w) A (getItem (.ref t) (.ref sl)) Q E s := by
  have htake : sizeOk (.seq items.toList.reverse.toArray) := by
    show items.toList.reverse.toArray.size ≤ sizeLine
    rw [List.size_toArray, List.length_reverse, Array.length_toList]
    exact hsz
  obtain ⟨os, hos, hcs, hds⟩ := id hs
  have hTs : s.TypeIs (.ref sl) "slice" := ⟨os, hos, hcs⟩
  unfold getItem
  try with_reducible refine wpAny_holding ?_
  first | refine wpAny_bind (wpAny_pure ?_) | skip
  refine wpAny_bind (wpAny_sequenceKey ht.typeIs (by decide) ?_)
  refine wpAny_bind (wpAny_callSpecial?_slot (name := Str.ofString "__getitem__") ht.typeIs PyProof.Rows.slot_tuple_getitem
    (wpAny_call_entry PyProof.Rows.slot_tuple_getitem ht.typeIs entry_tuple_getitem ?_ (args_tuple_getitem _ _)))
  show wpAny _ _ (Builtin.Tuple.tupleItemsOf (.ref t) >>= _) _ _ s
  refine wpAny_bind (tupleItemsOf_ ht ?_)
  refine wpAny_bind (wpAny_typeOf hTs ?_)
  rw [if_pos (by decide)]
  refine wpAny_bind (sliceApplied_rev hs ?_)
  have hno : ¬ ((((items.size : Int) - 1) == 0 && (-1 : Int) == 1 && items.size == items.size) = true) := by simp
  show wpAny _ _ (if ((((items.size : Int) - 1) == 0 && (-1 : Int) == 1 && items.size == items.size) = true) then _ else _) _ _ s
  rw [if_neg hno, pick_rev]
  first
    | exact wpAny_bind (m := Builtin.Tuple.tupleExact _) (wpAny_newObj_type (wpAny_pure ⟨_, rfl, wpAny_pure h⟩) htake)
    | exact wpAny_bind (m := Builtin.Tuple.tupleExact _) (wpAny_newObj_type (wpAny_bind (wpAny_pure (wpAny_pure ⟨_, rfl, wpAny_pure h⟩))) htake)
    | exact wpAny_bind (wpAny_bind (m := Builtin.Tuple.tupleExact _) (wpAny_newObj_type (wpAny_pure (wpAny_pure ⟨_, rfl, wpAny_pure h⟩)) htake))
    | exact wpAny_bind (wpAny_bind (m := Builtin.Tuple.tupleExact _) (wpAny_newObj_type (wpAny_pure ⟨_, rfl, wpAny_pure h⟩) htake))
end
/-- e[::-1]: a list, a tuple -/
def tRevA (K : PySem.W.Frag) (te : TE) : TE := fun σ H Q => te σ H fun x H1 => ∃ a xs, x = .ref a ∧ ((SqL K H1 a xs ∧ ∀ p, H1 p = none → Q (.ref p) (upd H1 p (.lst xs.reverse))) ∨
  (SqT K H1 a xs ∧ ∀ p ob, ob.dict = none → H1 p = none → Q (.ref p) (upd H1 p (.frz ob (.tup xs.reverse)))))
section
open PyProof.Rows
variable {X : Cx}
theorem pe_revA {e : Expr} {te : TE} {k : Nat} {p1 p2 p3 pos : Pos} (he : PE X e te) : PE X (.Subscript e (.Slice none none (some (.UnaryOp .USub (.Constant (.int 1) k p1) p2)) p3) pos) (tRevA X.K te) := by
  refine ⟨fun pins s σ H Q I h => ?_⟩
  refine Subscript_ (thn (he.run pins s σ H _ I h) fun v s1 ⟨x, H1, I1, r1, q1⟩ => ?_)
  obtain ⟨a, xs, ex, q⟩ := q1
  subst ex
  cases r1
  have hst : L2.PO X (some (.UnaryOp .USub (.Constant (.int 1) k p1) p2)) (tPart (tUn (rU fun i => .int (-i)) (tC (.int 1)))) := po_some (pe_un un_neg pe_int)
  refine wpAny_Slice (thn (po_none.run pins s1 σ H1 (fun o H2 => o = none ∧ H2 = H1) I1 ⟨rfl, rfl⟩) fun vl s2 ⟨l, H2, I2, pl, el, e2⟩ => ?_)
  subst el e2
  refine thn (po_none.run pins s2 σ H2 (fun o H3 => o = none ∧ H3 = H2) I2 ⟨rfl, rfl⟩) fun vu s3 ⟨u, H3, I3, pu, eu, e3⟩ => ?_
  subst eu e3
  refine thn (hst.run pins s3 σ H3 (fun o H4 => o = some (-1) ∧ H4 = H3) I3 ⟨1, rfl, -1, rfl, rfl, rfl⟩) fun vs s4 ⟨o, H4, I4, ps, eo, e4⟩ => ?_
  subst eo e4
  have I5 : Inv X pins σ H4 { s4 with heap := s4.heap.push { cls := .type "slice", data := .fields #[vl, vu, vs] } } := I4.kept (t' := s4.toks) fun b ob q => Heap.get?_push_of_some _ q
  show wpAny (model X.prog X.w) X.A (subscriptTail e (.Slice none none (some (.UnaryOp .USub (.Constant (.int 1) k p1) p2)) p3) (.ref a) (.ref s4.heap.objs.size)) (EP X pins σ Q) X.xe { s4 with heap := s4.heap.push { cls := .type "slice", data := .fields #[vl, vu, vs] } }
  rcases q with ⟨hx, q⟩ | ⟨hx, q⟩
  · obtain ⟨its, r, ht, hz⟩ := I5.list hx
    have hlen := r.length
    refine tail_any (ops := [.ref a, .ref s4.heap.objs.size]) ht.isList.typeIs (PySem.slot_list_getitem.lookup) ?_ (by with_unfolding_all rfl)
    refine wpAny_getItem_list_slice ht.isList (Heap.IsSliceOf.new _ vl vu vs) pl pu ps (by decide) ?_ (by rw [List.size_toArray]; omega)
    rw [PySem.W.krv_pick]
    refine ⟨.ref _, _, I5.laid (t' := s4.toks) (o := .lst xs.reverse) (fun b ob q => Heap.get?_push_of_some _ q) (Nat.le_refl _) ?_, rfl, q _ (I5.hok.fresh (Nat.le_refl _))⟩
    exact ⟨by rw [List.length_reverse]; exact hz, _, 0, r.reverse, Heap.get?_push_size _ rfl⟩
  · obtain ⟨its, r, ht, hz⟩ := I5.tuple hx
    have hlen := r.length
    have hs5 := Heap.IsSliceOf.new s4.heap vl vu vs
    cases pl
    cases pu
    cases ps
    refine tail_any (ops := [.ref a, .ref s4.heap.objs.size]) ht.typeIs (PyProof.Rows.slot_tuple_getitem.lookup) ?_ (by with_unfolding_all rfl)
    refine getItem_tuple_rev ht hs5 ?_ (by rw [List.size_toArray, ← hlen]; exact hz)
    refine ⟨.ref _, _, I5.laid (t' := s4.toks) (o := .frz _ (.tup xs.reverse)) (fun b ob q => Heap.get?_push_of_some _ q) (Nat.le_refl _) (frz_new (Heap.get?_push_size _ rfl) rfl 0 rfl (by rw [List.length_reverse]; exact hz) r.reverse), rfl, q _ _ rfl (I5.hok.fresh (Nat.le_refl _))⟩
end
def revD : PyData → Option PyData
  | .list ds => some (.list ds.reverse)
  | .tuple ds => some (.tuple ds.reverse)
  | _ => none
theorem pd_rev {X : Cx} {C : Lx} {Wx : WX} {e : Expr} {m : M PyData} {k : Nat} {p1 p2 p3 pos : Pos} (hK : C.K = X.K) (he : PD X C Wx e m) : PD X C Wx (.Subscript e (.Slice none none (some (.UnaryOp .USub (.Constant (.int 1) k p1) p2)) p3) pos) (m1 revD m) := by
  refine pe_weak (pe_revA he) fun σ H Q q => tE_use q fun δ w F S h => ?_
  refine tE_then S h fun d δ1 w1 F1 H1 v S1 g1 hv h1 => ?_
  refine tAt_fin S1 h1 fun z e k => ?_
  rw [← hK]
  cases hv with
  | lst hs hd =>
    cases e
    refine ⟨_, _, rfl, .inl ⟨sql_ext S1.sub hs, fun p hp => ?_⟩⟩
    obtain ⟨a, d⟩ := new_lst S1.sub hp (dps_rev hd)
    exact k _ _ _ a d
  | tup hs hd =>
    cases e
    refine ⟨_, _, rfl, .inr ⟨sqt_ext S1.sub hs, fun p ob ho hp => ?_⟩⟩
    obtain ⟨a, d⟩ := new_tup ho S1.sub hp (dps_rev hd)
    exact k _ _ _ a d
  | _ => cases e

/-! ### methods as parts of classes -/
section
variable {P : Program} {w : World} {K : PySem.W.Frag} {mg : Str → Option Value} {base : Heap}
structure DefM (K : PySem.W.Frag) (C : Addr) (m qual : Str) (st : Stmt) (ps : List Str) : Prop where
  ex : ∃ (f : Addr) (fd : FuncData), Fun K m qual st f fd ∧ Meth K C m f ∧ L2.Binds K fd ps []
structure DefI (K : PySem.W.Frag) (mg : Str → Option Value) (C : Addr) (x qual : Str) (st : Stmt) (ps : List Str) : Prop where
  ex : ∃ (f : Addr) (fd : FuncData), Fun K "__init__" qual st f fd ∧ Mk K C f ∧ mg x = some (.ref C) ∧ L2.Binds K fd ps []
theorem mok {Y : Lay} {c : Nat} {x qual : Str} {st : Stmt} {N ps : List Str} {k : Nat} {m : MS} (D : DefM K (Y.cl c) x qual st ps) (hc : Cls K (Y.cl c)) (S : FnScope N ps (defScope st))
    (hb : ∀ (f : Addr) (cdv : Value) (A : Around) (outer : List Env) (s : Shared) (H : Hp) (vs : List V) (E : XK), Room k (A.deeper (PyProof.Rows.envOfC qual (defScope st) s.heap.objs.size f cdv)) → vs.length = ps.length →
      PBd (cxOf (L2N.CX P w) P w K mg base N qual (defScope st) f cdv A outer s H E) ⟨Y, K, vs⟩ (wOf E) (defBody st) m) :
    MOk P w K mg base Y (k + 1) c x ps.length (fnPhi (N.length - ps.length) m) := by
  obtain ⟨f, fd, F, hm, b⟩ := D.ex
  exact ⟨f, fd, ps, fn_data Y F S fun cdv A outer s H vs E hr hl => hb f cdv A outer s H vs E hr hl, hc, hm, b⟩
theorem iok {Y : Lay} {c : Nat} {x qual : Str} {st : Stmt} {N ps : List Str} {k : Nat} {m : MS} (D : DefI K mg (Y.cl c) x qual st ps) (S : FnScope N ps (defScope st))
    (hb : ∀ (f : Addr) (cdv : Value) (A : Around) (outer : List Env) (s : Shared) (H : Hp) (vs : List V) (E : XK), Room k (A.deeper (PyProof.Rows.envOfC qual (defScope st) s.heap.objs.size f cdv)) → vs.length = ps.length →
      PBd (cxOf (L2N.CX P w) P w K mg base N qual (defScope st) f cdv A outer s H E) ⟨Y, K, vs⟩ (wOf E) (defBody st) m) :
    IOk P w K mg base Y (k + 1) c x ps.length (fnPhi (N.length - ps.length) m) := by
  obtain ⟨f, fd, F, hm, hx, b⟩ := D.ex
  exact ⟨f, fd, ps, fn_data Y F S fun cdv A outer s H vs E hr hl => hb f cdv A outer s H vs E hr hl, hm, hx, b⟩
end
end RH

/-! The data layer, part 27: comparisons of owned lists as tests. -/
namespace RH
open PySem PySem.Spec L2
section
variable {X : Cx} {C : Lx} {Wx : WX} {x : Str} {p pos : Pos} {e : Expr} {m : M PyData}
theorem tAt_test {mm : M PyData} {σ : St} {δ : List Slot} {w : Wn} {F H : Hp} {Q : Bool → Hp → Prop} (h : tAt C Wx (mtest mm) σ δ w F H fun b _ _ _ H' => Q b H') :
    tAt C Wx mm σ δ w F H fun d _ _ F' H' => ∀ v, Dp C.K F' v d → ∃ k, v = .bl k ∧ Q k H' :=
  tAt_mono (tAt_bind h) fun d δ1 w1 F1 H1 S1 g1 h1 v hv => by
    obtain ⟨k, ek, q4⟩ := tAt_lift h1
    obtain ⟨rfl, rfl⟩ := asB_of hv ek
    exact ⟨_, rfl, q4 w1 F1 H1 S1 S1.here⟩
theorem pb_cmpO {op : CmpOp} {r : R2} {f : PyData → PyData → Option PyData} (i : Nat) (hn : OwnN X i x) (ho : OpR X (compareOp op) r) (hr : RD2 C.K r f) (he : PD X C Wx e m) (hm : behindInMarks op e = false := by first | exact nomark _ | rfl) : PB X C Wx (.Compare (.Name x p) [op] [e] pos) (mtest (mcmpO f i m)) := by
  refine pt_weak (pt_cmpR ho (pe_own hn) he hm) fun σ H Q q => ?_
  obtain ⟨δ, w, F, S, h⟩ := q
  replace h := tAt_test h
  obtain ⟨h0, h1⟩ := tAt_with h
  obtain ⟨xs0, hx0⟩ := isOwnL_at h0
  obtain ⟨q0, vs0, e1, e2, e3, e4⟩ := S.ownL (lookL_some hx0)
  refine ⟨_, e1, δ, w, F, S, tAt_mono h1 fun d δ1 w1 F1 H1 S1 g1 h2 v hv => ?_⟩
  obtain ⟨xs, hx, h3⟩ := h2
  obtain ⟨vs, f2, fs, fd, fg⟩ := own_rule (r := r) (f := f) (d := d) (v := v) (Q := fun v H' => ∃ k, v = .bl k ∧ Q k H') S1 hx e1
  simp only [tAt] at h3
  cases ef : fin1 δ1 (f (.list xs) d) with
  | none => rw [ef] at h3; exact h3.elim
  | some rr =>
    obtain ⟨z, ez, sz, rfl⟩ := fin1_some ef
    rw [ef] at h3
    refine hr (upd F1 q0 (.lst vs)) H1 (.ref q0) v (.list xs) d z _ fs fd (dp_ext fg hv) ez fun u F' H' al hu => ?_
    exact h3 w1 F1 H' (S1.alc (Alc.grw S1.sub al.hh al.tbl)) (g1.trans ((Alc.grw S1.sub al.hh al.tbl).step _ _ fun _ h => h)) u (scalar_dp sz hu)
theorem pb_inO {op : CmpOp} {r : R2} {f : PyData → PyData → Option PyData} (i : Nat) (hn : OwnN X i x) (ho : OpR X (compareOp op) r) (hr : RD2 C.K r f) (he : PD X C Wx e m) (hm : behindInMarks op (.Name x p) = false := by first | exact nomark _ | rfl) : PB X C Wx (.Compare e [op] [.Name x p] pos) (mtest (minO f m i)) := by
  refine pt_weak (pt_cmpR ho he (pe_own hn) hm) fun σ H Q q => ?_
  obtain ⟨δ, w, F, S, h⟩ := q
  replace h := tAt_test h
  refine ⟨δ, w, F, S, tAt_mono (tAt_bind0 h) fun d δ1 w1 F1 H1 S1 g1 h2 v hv => ?_⟩
  simp only [tAt] at h2
  cases hx : lookL δ1 i with
  | none => rw [hx] at h2; exact h2.elim
  | some xs =>
    rw [hx] at h2
    obtain ⟨q0, vs0, e1, e2, e3, e4⟩ := S1.ownL (lookL_some hx)
    obtain ⟨vs, f2, fs, fd, fg⟩ := own_rule (r := r) (f := f) (d := d) (v := v) (Q := fun v H' => ∃ k, v = .bl k ∧ Q k H') S1 hx e1
    dsimp only at h2
    cases ef : fin1 δ1 (f d (.list xs)) with
    | none => rw [ef] at h2; exact h2.elim
    | some rr =>
      obtain ⟨z, ez, sz, rfl⟩ := fin1_some ef
      rw [ef] at h2
      refine ⟨_, e1, hr (upd F1 q0 (.lst vs)) H1 v (.ref q0) d (.list xs) z _ fs (dp_ext fg hv) fd ez fun u F' H' al hu => ?_⟩
      exact h2 w1 F1 H' (S1.alc (Alc.grw S1.sub al.hh al.tbl)) (g1.trans ((Alc.grw S1.sub al.hh al.tbl).step _ _ fun _ h => h)) u (scalar_dp sz hu)
theorem pb_cmpOD {op : CmpOp} {f : PyData → PyData → Option PyData} (i : Nat) (hn : OwnN X i x) (ho : OpD X (compareOp op) f) (hK : C.K = X.K) (he : PD X C Wx e m) (hm : behindInMarks op e = false := by first | exact nomark _ | rfl) : PB X C Wx (.Compare (.Name x p) [op] [e] pos) (mtest (mcmpO f i m)) := pb_cmpO i hn ho (by rw [hK]; exact rd2 _ _) he hm
theorem pb_inOD {op : CmpOp} {f : PyData → PyData → Option PyData} (i : Nat) (hn : OwnN X i x) (ho : OpD X (compareOp op) f) (hK : C.K = X.K) (he : PD X C Wx e m) (hm : behindInMarks op (.Name x p) = false := by first | exact nomark _ | rfl) : PB X C Wx (.Compare e [op] [.Name x p] pos) (mtest (minO f m i)) := pb_inO i hn ho (by rw [hK]; exact rd2 _ _) he hm
end
end RH

/-! The data layer, part 28: the law's end. -/
namespace RH
open PySem PySem.Spec L2
section
variable {P : Program} {w : World} {K : PySem.W.Frag} {mg : Str → Option Value} {base : Heap}
/-- the law's own def, its places told -/
theorem dokL {Y : Lay} {x qual : Str} {st : Stmt} {N ps : List Str} {k : Nat} {m : MS} {c f : Addr} {oc : Value} {od : Option Addr} {kV doc pm : Value} {an : Option Addr} {ct : Value} {osl : Array (Option Value)}
    (lk : K.lookup f = some ⟨oc, od, .func (PySem.W.fnOf x qual (defArgs st) (defBody st) (defScope st) .none kV doc pm an (.ref c) ct), osl⟩) (hcd : PySem.W.codeIn K (.ref c) qual = true) (S : FnScope N ps (defScope st))
    (hb : ∀ (f : Addr) (A : Around) (outer : List Env) (s : Shared) (H : Hp) (vs : List V) (E : XK), Room k (A.deeper (PyProof.Rows.envOfC qual (defScope st) s.heap.objs.size f (.ref c))) → vs.length = ps.length →
      PBd (cxOf (L2N.CX P w) P w K mg base N qual (defScope st) f (.ref c) A outer s H E) ⟨Y, K, vs⟩ (wOf E) (defBody st) m) :
    FnOk P w K mg base (L2N.CX P w) (k + 1) f (PySem.W.fnOf x qual (defArgs st) (defBody st) (defScope st) .none kV doc pm an (.ref c) ct) ps (spD Y K ps.length (fnPhi (N.length - ps.length) m)) := by
  refine ⟨fun vs H Q E h => h.1, ?_⟩
  have := fn_of (CX := L2N.CX P w) (k := k) (base := base) (mg := mg) (sp := spD Y K ps.length (fnPhi (N.length - ps.length) m)) lk hcd S (fun vs H Q E h => h.1) fun A outer s H vs Q E hr h => ⟨_, hb f A outer s H vs E hr h.1, ?_⟩
  · exact this.run
  · obtain ⟨hl, ss, w0, F, SA, q⟩ := h
    have ek : N.length - vs.length = N.length - ps.length := by rw [hl]
    refine ⟨ss ++ List.replicate (N.length - ps.length) .no, w0, F, ?_, ?_⟩
    · show SOk Y K vs F H (L2.start N vs) _ w0
      unfold L2.start
      rw [ek]
      exact argOk_start SA _
    · unfold fnPhi at q
      simp only [tStAt]
      cases e : m (ss ++ List.replicate (N.length - ps.length) .no) with
      | none => rw [e] at q; exact q.elim
      | some r =>
        rw [e] at q
        cases r with
        | nx δ => exact fun σ' w' F' H' S' g => q .non F' H' _ (argOk_end SA g.ff S') (g.mono (fun _ h => h) fun b h => .inl (backW_has h)) .non
        | rt d δ => exact fun v σ' w' F' H' S' g hv => q v F' H' _ (argOk_end SA g.ff S') (g.mono (fun _ h => h) fun b h => .inl (backW_has h)) hv
        | ex c δ => exact fun σ' w' F' H' S' g => q F' H' _ (argOk_end SA g.ff S') (g.mono (fun _ h => h) fun b h => .inl (backW_has h))

/-- the law's argument: the script, and no table but the law's own -/
theorem script_ok {Y : Lay} {H : Hp} {a : Addr} {ns : List Int} (hT : ∀ p ∈ Y.T, H p.1 = some (.tbl #[])) (h : SqL K H a (ns.map V.int)) : ∃ F, ArgOk Y K F H [.ref a] [.val (.list (ns.map PyData.int))] fun _ => [] := by
  have mk : ∀ F : Hp, Grw F H → (∀ b o, F b = some o → okO o) → SqL K F a (ns.map V.int) → ArgOk Y K F H [.ref a] [.val (.list (ns.map PyData.int))] fun _ => [] := fun F g n q =>
    { len := rfl
      sub := g
      tab := fun p hp => ⟨#[], hT p hp, True.intro, fun pos cv hc => by
        have z : codeAmong pos [] = some cv := hc
        cases z⟩
      ntb := n
      at_ := fun i s e => by
        cases i with
        | zero =>
          have e' : Slot.val (.list (ns.map PyData.int)) = s := by simpa using e
          subst e'
          exact .val (.lst q (dps_ints ns))
        | succ i => simp at e
      emp := fun _ _ => rfl
      nof := fun _ _ h => by simp at h
      dis := fun _ _ _ h => by simp at h
      par := fun _ _ _ h => by simp at h }
  have one : ∀ o : HO, H a = some o → okO o → Grw (fun b => if b = a then some o else none) H ∧ ∀ b u, (fun b => if b = a then some o else none) b = some u → okO u := fun o e k => by
    refine ⟨fun b u q => ?_, fun b u q => ?_⟩
    · dsimp only at q
      split at q
      · rename_i hb
        cases q
        rw [hb]
        exact e
      · cases q
    · dsimp only at q
      split at q
      · cases q
        exact k
      · cases q
  rcases h with h | h
  · rcases h with e | ⟨ob, e⟩
    · obtain ⟨g, n⟩ := one _ e trivial
      exact ⟨_, mk _ g n (.inl (.inl (if_pos rfl)))⟩
    · obtain ⟨g, n⟩ := one _ e trivial
      exact ⟨_, mk _ g n (.inl (.inr ⟨ob, if_pos rfl⟩))⟩
  · exact ⟨fun _ => none, mk _ (fun _ _ z => by cases z) (fun _ _ z => by cases z) (.inr h)⟩
theorem law_at {l : PySem.W.OpenLaw} {h : Heap} {Y : Lay} {n k : Nat} {st : Stmt} {fa fL cc Pt : Addr} {φ : Phi} {oc : Value} {od : Option Addr} {kV doc pm : Value} {an : Option Addr} {ct : Value} {osl : Array (Option Value)}
    (KX : K.In h) (G : h.Ns mainGlobals mg) (hfa : mg "law" = some (.ref fa)) (hP : h.get? Pt = some { cls := .none, data := .fields #[] }) (aL : PySem.W.nsIn K mainGlobals "law" = some (some (.ref fL)))
    (lk : K.lookup fL = some ⟨oc, od, .func (PySem.W.fnOf "law" "law" (defArgs st) (defBody st) (defScope st) .none kV doc pm an (.ref cc) ct), osl⟩)
    (hd : PySem.W.codeHdIn K cc Pt = true) (np : K.lookup Pt = none) (hT : Y.T = [(Pt, ("law.<locals>.<lambda>" : Str))])
    (hbn : ∀ (s : Shared) (u : Value), BindsTo s (PySem.W.fnOf "law" "law" (defArgs st) (defBody st) (defScope st) .none kV doc pm an (.ref cc) ct) ⟨[u], []⟩ [("_law_script", u)])
    (hφ : ∀ ns : List Int, ns.length ≤ n → (∀ z ∈ ns, Builtin.Int.intBits z ≤ 1048576) → ∃ ss, φ [.val (.list (ns.map PyData.int))] = some (.ok (.bool true) ss))
    (ok : ∀ base : Heap, K.In base → base.Ns mainGlobals mg → LamX.TabB base mg cc Pt → FnOk l.prog w K mg base (L2N.CX l.prog w) k fL (PySem.W.fnOf "law" "law" (defArgs st) (defBody st) (defScope st) .none kV doc pm an (.ref cc) ct) ["_law_script"] (spD Y K 1 φ)) :
    LamX.LawAtS l w K (L2N.CX l.prog w) k n "_law_script" mg fa h := by
  have e := hfa.symm.trans (PySem.W.mg_of KX G aL)
  cases e
  refine ⟨_, [(cc, Pt)], spD Y K 1 φ, fun p hp => ?_, fun p hp => ?_, fun p hp => ?_, hbn, fun H a ns hl hb hH hS => ?_, fun base KB GB TB => ok base KB GB (TB (cc, Pt) List.mem_cons_self)⟩
  · rw [List.mem_singleton.mp hp]
    exact hP
  · rw [List.mem_singleton.mp hp]
    exact np
  · rw [List.mem_singleton.mp hp]
    exact PySem.W.codeHd_of_K KX hd
  · obtain ⟨F, A⟩ := script_ok (K := K) (Y := Y) (ns := ns) (fun p hp => by
      rw [hT] at hp
      rw [List.mem_singleton.mp hp]
      exact hH (cc, Pt) List.mem_cons_self) hS
    obtain ⟨ss, e⟩ := hφ ns hl hb
    refine ⟨rfl, _, _, F, A, ?_⟩
    rw [e]
    intro v F' H' w' A' g hv
    cases hv
    rfl
/-- a def of the text, from what the top has left -/
theorem defF_mk {h : Heap} {x : Str} {st : Stmt} {ps : List Str} {f : Addr} {oc : Value} {od : Option Addr} {kV doc pm : Value} {an : Option Addr} {cd ct : Value} {osl : Array (Option Value)} (KX : K.In h) (G : h.Ns mainGlobals mg)
    (a : PySem.W.nsIn K mainGlobals x = some (some (.ref f))) (lk : K.lookup f = some ⟨oc, od, .func (PySem.W.fnOf x x (defArgs st) (defBody st) (defScope st) .none kV doc pm an cd ct), osl⟩) (hcd : PySem.W.codeIn K cd x = true) (kp : PySem.W.keepIn K (.ref f) = true)
    (b : Fun K x x st f (PySem.W.fnOf x x (defArgs st) (defBody st) (defScope st) .none kV doc pm an cd ct) → L2.Binds K (PySem.W.fnOf x x (defArgs st) (defBody st) (defScope st) .none kV doc pm an cd ct) ps []) : DefF K mg x x st ps :=
  ⟨f, _, ⟨⟨oc, od, kV, doc, pm, an, cd, ct, osl, rfl, lk, hcd⟩, kp⟩, PySem.W.mg_of KX G a, b ⟨⟨oc, od, kV, doc, pm, an, cd, ct, osl, rfl, lk, hcd⟩, kp⟩⟩
theorem defM_mk {C : Addr} {x qual : Str} {st : Stmt} {ps : List Str} {f : Addr} {oc : Value} {od : Option Addr} {kV doc pm : Value} {an : Option Addr} {cd ct : Value} {osl : Array (Option Value)}
    (a : PySem.W.findIn K (.ref C) x = some (some (.ref f))) (i : PySem.W.isFn K (.ref f) = true) (lk : K.lookup f = some ⟨oc, od, .func (PySem.W.fnOf x qual (defArgs st) (defBody st) (defScope st) .none kV doc pm an cd ct), osl⟩) (hcd : PySem.W.codeIn K cd qual = true) (kp : PySem.W.keepIn K (.ref f) = true)
    (b : Fun K x qual st f (PySem.W.fnOf x qual (defArgs st) (defBody st) (defScope st) .none kV doc pm an cd ct) → L2.Binds K (PySem.W.fnOf x qual (defArgs st) (defBody st) (defScope st) .none kV doc pm an cd ct) ps []) : DefM K C x qual st ps :=
  ⟨f, _, ⟨⟨oc, od, kV, doc, pm, an, cd, ct, osl, rfl, lk, hcd⟩, kp⟩, ⟨a, i, kp⟩, b ⟨⟨oc, od, kV, doc, pm, an, cd, ct, osl, rfl, lk, hcd⟩, kp⟩⟩
theorem defI_mk {h : Heap} {C : Addr} {x qual : Str} {st : Stmt} {ps : List Str} {f : Addr} {oc : Value} {od : Option Addr} {kV doc pm : Value} {an : Option Addr} {cd ct : Value} {osl : Array (Option Value)} (KX : K.In h) (G : h.Ns mainGlobals mg) (aC : PySem.W.nsIn K mainGlobals x = some (some (.ref C))) (mk : PySem.W.makesIn K C = true) (kc : PySem.W.keepIn K (.ref C) = true)
    (a : PySem.W.findIn K (.ref C) "__init__" = some (some (.ref f))) (i : PySem.W.isFn K (.ref f) = true) (lk : K.lookup f = some ⟨oc, od, .func (PySem.W.fnOf "__init__" qual (defArgs st) (defBody st) (defScope st) .none kV doc pm an cd ct), osl⟩) (hcd : PySem.W.codeIn K cd qual = true) (kp : PySem.W.keepIn K (.ref f) = true)
    (b : Fun K "__init__" qual st f (PySem.W.fnOf "__init__" qual (defArgs st) (defBody st) (defScope st) .none kV doc pm an cd ct) → L2.Binds K (PySem.W.fnOf "__init__" qual (defArgs st) (defBody st) (defScope st) .none kV doc pm an cd ct) ps []) : DefI K mg C x qual st ps :=
  ⟨f, _, ⟨⟨oc, od, kV, doc, pm, an, cd, ct, osl, rfl, lk, hcd⟩, kp⟩, ⟨mk, a, i, kc⟩, PySem.W.mg_of KX G aC, b ⟨⟨oc, od, kV, doc, pm, an, cd, ct, osl, rfl, lk, hcd⟩, kp⟩⟩
theorem cxN_no {H : Hp} {s : Shared} {e : Value} {s' : Shared} (z : L2N.CX P w [] H s (fun _ _ _ => False) e s') : False := by
  obtain ⟨_, _, _, _, _, _, _, _, _, _, _, _, h⟩ := z
  exact h
theorem mem_look {a : Addr} {o : Obj} : ∀ {K : PySem.W.Frag}, K.lookup a = some o → (a, o) ∈ K
  | [], e => by cases e
  | (b, u) :: r, e => by
    rw [List.lookup_cons] at e
    cases q : a == b with
    | true =>
      rw [q] at e
      cases e
      rw [eq_of_beq q]
      exact List.mem_cons_self
    | false =>
      rw [q] at e
      exact List.mem_cons_of_mem _ (mem_look e)
def ktB (K : PySem.W.Frag) : Bool := K.all fun p => !(p.2.cls == .type "tuple") || p.2.dict.isNone
theorem kt_of (h : ktB K = true) : KT K := fun a o e hc => by
  have := List.all_eq_true.mp h _ (mem_look e)
  rw [hc] at this
  simpa using this
end
end RH

/-! The data layer, part 29: sorted(tuple). -/
namespace RH
open PySem PySem.Spec L2
section
open PyProof.Rows PySem.W
variable {prog : Program} {w : World} {A : Around} {E : Value → Shared → Prop} {s : Shared}
theorem collect_tup {l : Addr} {vs : List Value} {Q : List Value → Shared → Prop} (hl : IsTup s.heap l vs.toArray)
    (h : Q vs { s with heap := (s.heap.push (seqObj "list" #[] 0)).update s.heap.objs.size (Obj.mapSeq (· ++ vs.toArray)) }) (hsz : vs.length ≤ sizeLine) :
    wpAny (model prog w) A (collect (.ref l)) Q E s := by
  obtain ⟨o, ho, hc, n, hd⟩ := id hl
  unfold collect
  refine wpAny_bind (wpAny_runValue (codeAny_builtin entry_proto_collect' ?_))
  show wpAny _ _ (do again (.builtin "list.__iadd__" ⟨[← newList [], .ref l], []⟩)) _ _ s
  refine wpAny_bind (wpAny_newList (wpAny_pure ⟨Code.quiet_builtin _ (by decide +kernel), codeAny_builtin entry_list_iadd' ?_⟩))
  show wpAny _ _ (Builtin.List.listExtendWith (.ref s.heap.objs.size) (.ref l) (.ref s.heap.objs.size)) _ _ { s with heap := s.heap.push (seqObj "list" #[] 0) }
  unfold Builtin.List.listExtendWith
  have ho' : (s.heap.push (seqObj "list" #[] 0)).get? l = some o := Heap.get?_push_of_some _ ho
  refine wpAny_bind (wpAny_typeOf (T := "tuple") ⟨o, ho', hc⟩ ?_)
  have ht : (Value.type "tuple" == Value.type "tuple") = true := by rfl
  rw [if_pos (by rw [ht]; simp)]
  refine wpAny_bind (listItems_at ho' hd ?_)
  refine wpAny_bind (listItems_at (xs := #[]) (n := 0) (Heap.get?_push_size _ rfl) rfl ?_)
  rw [if_neg (by simp)]
  refine wpAny_bind (listUpdate_at (xs := #[]) (n := 0) (Heap.get?_push_size _ rfl) rfl ?_ (Nat.zero_le _) (by show (#[] ++ vs.toArray).size ≤ sizeLine + 1; simp only [Array.size_append, List.size_toArray, List.length_nil]; omega))
  refine wpAny_pure ?_
  show wpAny (model prog w) A (do
      let o ← load s.heap.objs.size
      match o.data with
      | .seq xs _ => pure xs.toList
      | _ => unsupported "internal:collect") Q E { s with heap := (s.heap.push (seqObj "list" #[] 0)).update s.heap.objs.size (Obj.mapSeq (· ++ vs.toArray)) }
  refine wpAny_bind (wpAny_load (get?_update_seq (Heap.get?_push_size _ rfl) _) ?_)
  show wpAny _ _ (pure ((#[] : Array Value) ++ vs.toArray).toList) Q E _
  rw [show ((#[] : Array Value) ++ vs.toArray).toList = vs by simp]
  exact wpAny_pure h
theorem sorted_of_sortT {l : Addr} {vs : List Value} {kw : List (Str × Value)} {Q : Value → Shared → Prop} (hl : IsTup s.heap l vs.toArray) (hL : vs.length ≤ sizeLine) (ha1 : argsOk "sorted" ⟨[.ref l], kw⟩) (ha2 : ∀ x, argsOk "list.sort" ⟨[.ref x], kw⟩)
    (body : ∀ E' : Value → Shared → Prop, wpAny (model prog w) A.in1.in1 (Builtin.«list.sort» ⟨[.ref (s.heap.objs.size + 1)], kw⟩) (fun f s' => f = .done (.ret .none) ∧ Q (.ref (s.heap.objs.size + 1)) s') E' { s with heap := copyHeap s.heap vs }) :
    wpAny (model prog w) A (call (.builtin "sorted") [.ref l] kw) Q E s := by
  refine call_function_entry_kw kind_sorted plain_sorted entry_sorted ha1 ?_
  unfold Builtin.«sorted»
  refine wpAny_bind (m := checkCount "sorted" 1 1 _) (wpAny_pure ?_)
  refine wpAny_bind (collect_tup hl ?_ hL)
  refine wpAny_bind (wpAny_newList ?_ hL)
  have hsz : ((s.heap.push (seqObj "list" #[] 0)).update s.heap.objs.size (Obj.mapSeq (· ++ vs.toArray))).objs.size = s.heap.objs.size + 1 := by
    rw [Heap.size_update, size_push']
  show wpAny _ _ _ _ _ { s with heap := copyHeap s.heap vs }
  rw [hsz]
  refine wpAny_bind (wpAny_holding (wpAny_call_entry_kw slot_list_sort ⟨_, copyHeap_at s.heap vs, rfl⟩ entry_list_sort ?body (ha2 _)))
  case body =>
    show wpAny (model prog w) A.in1.in1 (Builtin.«list.sort» ⟨[.ref (s.heap.objs.size + 1)], kw⟩) _ _ _
    refine wpAny_mono (body _) (fun f s' hf => ?_) fun _ _ e => e
    obtain ⟨rfl, hq⟩ := hf
    exact ⟨_, rfl, wpAny_pure ⟨_, rfl, hq⟩⟩
variable {β : Type} {vs : List Value} {bs : List β} {enc : β → PyData} {R : Value → β → Prop}
theorem sorted_dataT {l : Addr} {Q : Value → Shared → Prop} (hl : IsTup s.heap l vs.toArray) (e : EachIs R vs bs) (er : EachIs (fun v b => ∃ as, Reads s.heap v (enc b) as) vs bs) (hal : AllAlike (bs.map enc)) (hk : Sortable (bs.map enc)) (hL : bs.length ≤ sizeLine)
    (hu : ∀ b, b ∈ bs → A.units + 2 + (enc b).depth < cLine) (h : ∀ out, out.length = bs.length → EachIs R out (bs.mergeSort (dataLe false enc)) → Q (.ref (s.heap.objs.size + 1)) { s with heap := sortedAll s.heap vs (List.toArray out) }) :
    wpAny (model prog w) A (call (.builtin "sorted") [.ref l]) Q E s := by
  have er' : EachIs (fun v b => ∃ as, Reads (sortingHeap (copyHeap s.heap vs) (s.heap.objs.size + 1) vs) v (enc b) as) vs bs := er.mono fun _ _ ⟨as, r⟩ => ⟨as, PyProof.Rows.Reads.keeps (fun _ _ => sorting_copy_old) r⟩
  have hlen : vs.length ≤ sizeLine := by rw [e.length]; exact hL
  exact sorted_of_sortT hl hlen (args_sorted1 _) (fun _ => args_list_sort _) fun _ => list_sort_vals (s := { s with heap := copyHeap s.heap vs }) (copyHeap_at s.heap vs)
    (SortsAt.data (s := { s with heap := sortingHeap (copyHeap s.heap vs) (s.heap.objs.size + 1) vs }) (each_map (R := fun v d => ∃ as, Reads (sortingHeap (copyHeap s.heap vs) (s.heap.objs.size + 1) vs) v d as) enc er') hal hk (bound_map hu)) hlen
    ⟨rfl, h _ (by rw [sortVals_length false rfl]; exact e.length) (sortVals_data false e er' hal)⟩
end
def sortedD3 : PyData → Option PyData
  | .list xs => if sortOk xs then some (.list (isort xs)) else none
  | .tuple xs => if sortOk xs then some (.list (isort xs)) else none
  | _ => none
def sortedD2 := one sortedD3
section
variable {X : Cx}
theorem callD_sorted2 (hu : X.A.units + 67 < cLine) : CallD X (.builtin "sorted") sortedD2 := by
  intro pins s σ H xs us Q I r h
  obtain ⟨F, ds, z, g, hd, ef, q⟩ := h
  obtain ⟨d, rfl, ef'⟩ := one_some ef
  cases hd with
  | cons hd' ht =>
    cases ht
    cases hd' with
    | lst hs hd =>
      exact callD_sorted hu pins s σ H _ us Q I r ⟨F, _, z, g, .cons (.lst hs hd) .nil, ef', q⟩
    | tup hs hd =>
      have ef := ef'
      simp only [sortedD3] at ef
      split at ef
      · rename_i hok
        cases ef
        unfold sortOk at hok
        rw [Bool.and_eq_true, Bool.and_eq_true, Bool.and_eq_true] at hok
        obtain ⟨⟨⟨h1, h2⟩, h3⟩, h4⟩ := hok
        obtain ⟨its, rv, pl, hz⟩ := I.tuple (sqt_ext g hs)
        rw [Vals.ref1 r]
        obtain ⟨ez, em⟩ := each_zip hd rv
        have hl : (List.zip _ _).length = _ := ez.length.symm
        refine sorted_dataT (enc := fun b : V × PyData => b.2) pl ez (ez.mono fun u b ⟨ru, db⟩ => Dp.reads I b.2 b.1 u (dp_ext g db) ru) (by rw [em]; exact fun x hx y hy => List.all_eq_true.mp (List.all_eq_true.mp h1 x hx) y hy) (by rw [em]; exact sortable_of h2) ?_ ?_ fun out hlen eo => ?_
        · rw [hl, ← rv.length]
          exact hz
        · intro b hb
          have hm : b.2 ∈ List.map Prod.snd (List.zip _ _) := List.mem_map.mpr ⟨b, hb, rfl⟩
          rw [em] at hm
          have := shp_depth (List.all_eq_true.mp h3 _ hm)
          omega
        · obtain ⟨v1, d1⟩ := vals_each eo
          rw [zip_sort em] at d1
          have hlen2 := v1.length
          obtain ⟨e, he⟩ := PyProof.Rows.sortedAll_at s.heap its out.toArray
          have hf := I.hok.fresh (Nat.le_succ s.heap.objs.size)
          obtain ⟨a, d⟩ := new_lst g hf d1
          refine ⟨.ref (s.heap.objs.size + 1), _, I.laid (t' := s.toks) (o := .lst (List.map Prod.fst (List.mergeSort _ _))) (fun b o eb => PyProof.Rows.sortedAll_old eb) (Nat.le_succ _) ⟨?_, out, e, v1, he⟩, rfl, q _ _ _ a d⟩
          rw [hlen2, hlen, hl, ← rv.length]
          exact hz
      · cases ef
    | _ => cases ef'
end
end RH

/-! The data layer, part 30: what the functions give, step by step. -/
namespace RH
open PySem PySem.Spec L2
section
variable {δ δ1 δ2 : List Slot} {a b : M PyData} {x y z d : PyData} {f : PyData → PyData → Option PyData} {ms : M (List PyData)} {ds : List PyData} {φ : Phi}
theorem ev_m2 (h1 : a δ = some (.ok x δ1)) (h2 : b δ1 = some (.ok y δ2)) (h3 : f x y = some z) : m2 f a b δ = some (.ok z δ2) := by
  simp only [m2, mbind, h1, h2, h3, mlift]
theorem ev_m1 {g : PyData → Option PyData} (h1 : a δ = some (.ok x δ1)) (h3 : g x = some z) : m1 g a δ = some (.ok z δ1) := by
  simp only [m1, mbind, h1, h3, mlift]
theorem ev_test {k : Bool} (h : a δ = some (.ok (.bool k) δ1)) : mtest a δ = some (.ok k δ1) := by
  simp only [mtest, mbind, h, asB, mlift]
theorem ev_not {m : M Bool} {k : Bool} (h : m δ = some (.ok k δ1)) : mnot m δ = some (.ok (!k) δ1) := by
  simp only [mnot, mbind, h, mpure]
theorem ev_or1 {m n : M Bool} (h : m δ = some (.ok true δ1)) : mor m n δ = some (.ok true δ1) := by
  simp only [mor, mbind, h, mpure, if_true]
theorem ev_or2 {m n : M Bool} {k : Bool} (h : m δ = some (.ok false δ1)) (h2 : n δ1 = some (.ok k δ2)) : mor m n δ = some (.ok k δ2) := by
  simp only [mor, mbind, h, h2, Bool.false_eq_true, if_false]
theorem ev_and1 {m n : M Bool} (h : m δ = some (.ok false δ1)) : mand m n δ = some (.ok false δ1) := by
  simp only [mand, mbind, h, mpure, Bool.false_eq_true, if_false]
theorem ev_and2 {m n : M Bool} {k : Bool} (h : m δ = some (.ok true δ1)) (h2 : n δ1 = some (.ok k δ2)) : mand m n δ = some (.ok k δ2) := by
  simp only [mand, mbind, h, h2, if_true]
theorem ev_cons (h1 : a δ = some (.ok x δ1)) (h2 : ms δ1 = some (.ok ds δ2)) : mcons a ms δ = some (.ok (x :: ds) δ2) := by
  simp only [mcons, mbind, h1, h2, mpure]
theorem ev_L {g : List PyData → Option PyData} (h1 : ms δ = some (.ok ds δ1)) (h3 : g ds = some z) : mL g ms δ = some (.ok z δ1) := by
  simp only [mL, mbind, h1, h3, mlift]
theorem ev_call {n : Nat} {ss : List Slot} (h1 : ms δ = some (.ok ds δ1)) (hn : ds.length = n) (h3 : φ (ds.map .val) = some (.ok z ss)) : mcall n φ ms δ = some (.ok z δ1) := by
  simp only [mcall, mbind, h1, hn, if_true, h3]
theorem ev_callX {n c : Nat} {ss : List Slot} (h1 : ms δ = some (.ok ds δ1)) (hn : ds.length = n) (h3 : φ (ds.map .val) = some (.ex c ss)) : mcall n φ ms δ = some (.ex c δ1) := by
  simp only [mcall, mbind, h1, hn, if_true, h3]
theorem ev_callO {n i : Nat} {o0 o : Own} {s : Slot} {ss : List Slot} (h0 : δ[i]? = some (.own o0)) (h1 : ms δ = some (.ok ds δ1)) (hn : ds.length + 1 = n) (h2 : δ1[i]? = some (.own o)) (h3 : φ (.own o :: ds.map .val) = some (.ok z (s :: ss))) : mcallO n φ i ms δ = some (.ok z (δ1.set i s)) := by
  simp only [mcallO, h0, mbind, h1, hn, if_true, h2, h3]
theorem ev_ixO {i : Nat} {j : Int} {xs : List PyData} (hx0 : lookL δ i = some xs) (h : atI xs j = some z) : mixO i (mpure (.int j)) δ = some (.ok z δ) := by
  simp only [mixO, mwith, isOwnL, hx0, Option.isSome_some, if_true, mbind, mpure, h, Option.map_some]
theorem st_seq {p q : MS} {r : Option SR} (h1 : p δ = some (.nx δ1)) (h2 : q δ1 = r) : sseq p q δ = r := by
  simp only [sseq, h1, h2]
theorem st_seqR {p q : MS} (h1 : p δ = some (.rt d δ1)) : sseq p q δ = some (.rt d δ1) := by
  simp only [sseq, h1]
theorem st_seqX {p q : MS} {c : Nat} (h1 : p δ = some (.ex c δ1)) : sseq p q δ = some (.ex c δ1) := by
  simp only [sseq, h1]
theorem st_ifT {c : M Bool} {p q : MS} {r : Option SR} (h1 : c δ = some (.ok true δ1)) (h2 : p δ1 = r) : sif c p q δ = r := by
  simp only [sif, sbind, h1, if_true, h2]
theorem st_ifF {c : M Bool} {p q : MS} {r : Option SR} (h1 : c δ = some (.ok false δ1)) (h2 : q δ1 = r) : sif c p q δ = r := by
  simp only [sif, sbind, h1, Bool.false_eq_true, if_false, h2]
theorem st_asg {t : Tg} (h1 : a δ = some (.ok d δ1)) (h2 : bindT t d δ1 = some δ2) : sasg t a δ = some (.nx δ2) := by
  simp only [sasg, sbind, h1, h2, Option.map_some]
theorem st_ret (h1 : a δ = some (.ok d δ1)) : sret a δ = some (.rt d δ1) := by
  simp only [sret, sbind, h1]
theorem st_expr (h1 : a δ = some (.ok d δ1)) : sexpr a δ = some (.nx δ1) := by
  simp only [sexpr, sbind, h1, snext]
theorem st_exprX {c : Nat} (h1 : a δ = some (.ex c δ1)) : sexpr a δ = some (.ex c δ1) := by
  simp only [sexpr, sbind, h1]
theorem st_setO {i : Nat} {xs : List PyData} (h1 : ms δ = some (.ok xs δ1)) : ssetO i ms δ = some (.nx (δ1.set i (.own (.b (.lst xs))))) := by
  simp only [ssetO, sbind, h1]
theorem st_setI {i n : Nat} {j : Int} {xs : List PyData} (h : a δ = some (.ok d δ1)) (hx : lookL δ1 i = some xs) (hn : ixN xs.length j = some n) : ssetI i (mpure (.int j)) a δ = some (.nx (δ1.set i (.own (.b (.lst (xs.set n d)))))) := by
  unfold ssetI
  simp only [sbind, h, mwith, isOwnL, hx, Option.isSome_some, if_true, mbind, mpure, hn, snext]
/-- a loop, an invariant -/
theorem st_loop {t : Tg} {mb : MS} (Inv : Nat → List Slot → Prop) : ∀ (ds : List PyData) (δ : List Slot), Inv ds.length δ →
    (∀ d ∈ ds, ∀ n δ, Inv (n + 1) δ → ∃ δ1 δ2, bindT t d δ = some δ1 ∧ mb δ1 = some (.nx δ2) ∧ Inv n δ2) → ∃ δ2, sloop t mb ds δ = some (.nx δ2) ∧ Inv 0 δ2
  | [], δ, h, _ => ⟨δ, rfl, h⟩
  | d :: ds, δ, h, k => by
    obtain ⟨δ1, δ2, e1, e2, h2⟩ := k d List.mem_cons_self ds.length δ h
    obtain ⟨δ3, e3, h3⟩ := st_loop Inv ds δ2 h2 fun x hx => k x (List.mem_cons_of_mem _ hx)
    exact ⟨δ3, by simp only [sloop, e1, e2, e3], h3⟩
theorem st_loopO {i : Nat} {mb : MS} (Inv : List Slot → Prop) : ∀ (xss : List (List PyData)) (δ : List Slot), Inv δ →
    (∀ xs ∈ xss, ∀ δ, Inv δ → ∃ δ2, mb (δ.set i (.own (.b (.lst xs)))) = some (.nx δ2) ∧ Inv δ2) → ∃ δ2, sloopO i mb xss δ = some (.nx δ2) ∧ Inv δ2
  | [], δ, h, _ => ⟨δ, rfl, h⟩
  | xs :: r, δ, h, k => by
    obtain ⟨δ2, e2, h2⟩ := k xs List.mem_cons_self δ h
    obtain ⟨δ3, e3, h3⟩ := st_loopO Inv r δ2 h2 fun x hx => k x (List.mem_cons_of_mem _ hx)
    exact ⟨δ3, by simp only [sloopO, e2, e3], h3⟩
end
end RH

namespace K02
open PySem PySem.Spec L2 RH
def fuel : Nat := 8
def wfuel : Nat := 1000
def top (i : Nat) : Stmt := PySem.Challenge.pw_roomhours_k02_whole_seatings.main.body.getD i (.Pass ⟨0, 0, 0, 0⟩)
theorem hl0 {n : Nat} {vs : List V} (h : vs.length = n) {m : Nat} (k : n ≤ m := by decide) : vs.length ≤ m := by omega
section
variable {P : Program} {w : World} {K : PySem.W.Frag} {mg : Str → Option Value} {base : Heap} {Y : Lay}
abbrev s_is_whole : Stmt := top 16
theorem sc_is_whole : FnScope ["thing", "low", "high"] ["thing", "low", "high"] (defScope s_is_whole) := ⟨rfl, rfl, rfl, by decide +kernel, rfl, by decide +kernel, by decide +kernel⟩
def m_is_whole : MS := sret (mandV (isiM PyData.isInt (mvar 0)) (mandV (mnotV (isiM PyData.isBool (mvar 0))) (mchain leD leD (mvar 1) (mvar 0) (mvar 2))))
def φ_is_whole : Phi := fnPhi 0 m_is_whole
theorem ok_is_whole (B : Bl mg) (hKT : KT K) (D : DefF K mg "is_whole" "is_whole" s_is_whole ["thing", "low", "high"])  : DOk P w K mg base Y 1 "is_whole" 3 φ_is_whole := by
  refine dok (k := 0) D sc_is_whole fun f cdv A outer s H vs E hr hl => ?_
  have hN := sc_is_whole.nd
  exact (pb_one (pd_ret (pd_and (pd_isi isi_int rfl (pd_var 0) B.isinstance B.int (by rfl)) (pd_and (pd_not (pd_isi isi_bool rfl (pd_var 0) B.isinstance B.bool (by rfl))) (pd_one (pd_chainD (opD_le (hu64 hr)) (opD_le (hu64 hr)) rfl (pd_var 1) (pd_var 0) (pd_var 2)))))))
abbrev s_is_word : Stmt := top 17
theorem sc_is_word : FnScope ["thing", "sign"] ["thing"] (defScope s_is_word) := ⟨rfl, rfl, rfl, by decide +kernel, rfl, by decide +kernel, by decide +kernel⟩
def m_is_word : MS := sret (mandV (isiM PyData.isStr (mvar 0)) (mandV (mchain leD leD (mpure (.int 1)) (mL lenD (mcons (mvar 0) (mnil))) (mpure (.int 8))) (mL allD (mcons (mfrz (mcomp (msrc (mvar 0)) [1] (.nm 1) (mtrue) (m2 inD (mvar 1) (mpure (.str "abcdefghijklmnopqrstuvwxyz"))))) (mnil)))))
def φ_is_word : Phi := fnPhi 1 m_is_word
theorem ok_is_word (B : Bl mg) (hKT : KT K) (D : DefF K mg "is_word" "is_word" s_is_word ["thing"]) {t_SMALL : Tok} (g_SMALL : mg "SMALL" = some (.str "abcdefghijklmnopqrstuvwxyz" t_SMALL)) : DOk P w K mg base Y 1 "is_word" 1 φ_is_word := by
  refine dok (k := 0) D sc_is_word fun f cdv A outer s H vs E hr hl => ?_
  have hN := sc_is_word.nd
  exact (pb_one (pd_ret (pd_and (pd_isi isi_str rfl (pd_var 0) B.isinstance B.str (by rfl)) (pd_and (pd_chainD (opD_le (hu64 hr)) (opD_le (hu64 hr)) rfl pd_int (pd_bltD (callD_len) rfl B.len (by rfl) (pl_cons (pd_var 0) pl_nil)) pd_int) (pd_one (pd_bltD (callD_all rfl) rfl B.all (by rfl) (pl_cons (pd_of (po_lc [("sign", 1)] [1] rfl hN (pi_src rfl (pd_var 0)) rfl (by decide) (blkOk_by (by kernel_rfl)) (fun _ _ _ _ _ => (pg_nm 1 hN)) (fun _ _ _ _ _ => pts_yes) (fun _ _ _ _ _ => (pd_cmpD (opD_in (hu65 hr)) rfl (pd_var 1) (pd_globS g_SMALL))))) pl_nil)))))))
abbrev s_rise : Stmt := top 18
theorem sc_rise : FnScope ["rows", "one", "other"] ["rows"] (defScope s_rise) := ⟨rfl, rfl, rfl, by decide +kernel, rfl, by decide +kernel, by decide +kernel⟩
def m_rise : MS := sret (mL allD (mcons (mfrz (mcomp (mzip (mvar 0) (msl (mvar 0) (mprt (mpure (.int 1))) (mnoP))) [1, 2] (.tp [.nm 1, .nm 2]) (mtrue) (m2 ltD (mvar 1) (mvar 2)))) (mnil)))
def φ_rise : Phi := fnPhi 2 m_rise
theorem ok_rise (B : Bl mg) (hKT : KT K) (D : DefF K mg "rise" "rise" s_rise ["rows"])  : DOk P w K mg base Y 1 "rise" 1 φ_rise := by
  refine dok (k := 0) D sc_rise fun f cdv A outer s H vs E hr hl => ?_
  have hN := sc_rise.nd
  exact (pb_one (pd_ret (pd_bltD (callD_all rfl) rfl B.all (by rfl) (pl_cons (pd_of (po_lc [("one", 1), ("other", 2)] [1, 2] rfl hN (pi_zipD rfl (pd_var 0) (pd_sl rfl (pd_var 0) (pt_e pd_int) pt_no) B.zip) rfl (by decide) (blkOk_by (by kernel_rfl)) (fun _ _ _ _ _ => (pg_tp rfl rfl (pgs_cn (pg_nm 1 hN) (pgs_cn (pg_nm 2 hN) pgs_nl)))) (fun _ _ _ _ _ => pts_yes) (fun _ _ _ _ _ => (pd_cmpD (opD_lt (hu64 hr)) rfl (pd_var 1) (pd_var 2))))) pl_nil))))
abbrev s_two_by_two : Stmt := top 19
theorem sc_two_by_two : FnScope ["folk", "found", "at", "one", "other"] ["folk"] (defScope s_two_by_two) := ⟨rfl, rfl, rfl, by decide +kernel, rfl, by decide +kernel, by decide +kernel⟩
def m_two_by_two : MS := sseq (sasg (.nm 1) (mL mkLst (mnil)))
    (sseq (sfor (menum (mvar 0)) (.tp [.nm 2, .nm 3]) (sasg (.nm 1) (m2 addD (mvar 1) (mfrz (mcomp (msrc (msl (mvar 0) (mprt (m2 addD (mvar 2) (mpure (.int 1)))) (mnoP))) [4] (.nm 4) (mtrue) (mL mkTup (mcons (mvar 3) (mcons (mvar 4) (mnil)))))))))
    (sret (mvar 1)))
def φ_two_by_two : Phi := fnPhi 4 m_two_by_two
theorem ok_two_by_two (B : Bl mg) (hKT : KT K) (D : DefF K mg "two_by_two" "two_by_two" s_two_by_two ["folk"])  : DOk P w K mg base Y 1 "two_by_two" 1 φ_two_by_two := by
  refine dok (k := 0) D sc_two_by_two fun f cdv A outer s H vs E hr hl => ?_
  have hN := sc_two_by_two.nd
  exact (pb_cons (pd_set 1 hN (pd_lst pl_nil))
    (pb_cons (pd_for PassesOwn.leaving rfl (pi_enumD rfl (pd_var 0) B.enumerate) (pg_tp rfl rfl (pgs_cn (pg_nm 2 hN) (pgs_cn (pg_nm 3 hN) pgs_nl))) (pb_one (pd_set 1 hN (pd_opD opD_add rfl (pd_var 1) (pd_of (po_lc [("other", 4)] [4] rfl hN (pi_src rfl (pd_sl rfl (pd_var 0) (pt_e (pd_opD opD_add rfl (pd_var 2) pd_int)) pt_no)) rfl (by decide) (blkOk_by (by kernel_rfl)) (fun _ _ _ _ _ => (pg_nm 4 hN)) (fun _ _ _ _ _ => pts_yes) (fun _ _ _ _ _ => (pd_tup (pl_cons (pd_var 3) (pl_cons (pd_var 4) pl_nil))))))))))
    (pb_one (pd_ret (pd_var 1)))))
abbrev s_are_names : Stmt := top 20
theorem sc_are_names : FnScope ["thing", "one"] ["thing"] (defScope s_are_names) := ⟨rfl, rfl, rfl, by decide +kernel, rfl, by decide +kernel, by decide +kernel⟩
def m_are_names : MS := sret (mandV (isiM PyData.isTuple (mvar 0)) (mL allD (mcons (mfrz (mcomp (msrc (mvar 0)) [1] (.nm 1) (mtrue) (isiM PyData.isStr (mvar 1)))) (mnil))))
def φ_are_names : Phi := fnPhi 1 m_are_names
theorem ok_are_names (B : Bl mg) (hKT : KT K) (D : DefF K mg "are_names" "are_names" s_are_names ["thing"])  : DOk P w K mg base Y 1 "are_names" 1 φ_are_names := by
  refine dok (k := 0) D sc_are_names fun f cdv A outer s H vs E hr hl => ?_
  have hN := sc_are_names.nd
  exact (pb_one (pd_ret (pd_and (pd_isi isi_tuple rfl (pd_var 0) B.isinstance B.tuple (by rfl)) (pd_one (pd_bltD (callD_all rfl) rfl B.all (by rfl) (pl_cons (pd_of (po_lc [("one", 1)] [1] rfl hN (pi_src rfl (pd_var 0)) rfl (by decide) (blkOk_by (by kernel_rfl)) (fun _ _ _ _ _ => (pg_nm 1 hN)) (fun _ _ _ _ _ => pts_yes) (fun _ _ _ _ _ => (pd_isi isi_str rfl (pd_var 1) B.isinstance B.str (by rfl))))) pl_nil))))))
abbrev s_is_house : Stmt := top 21
theorem sc_is_house : FnScope ["thing", "folk", "rooms", "size", "apart", "one"] ["thing"] (defScope s_is_house) := ⟨rfl, rfl, rfl, by decide +kernel, rfl, by decide +kernel, by decide +kernel⟩
def m_is_house : MS := sseq (sif (mor (mnot (mtest (isiM PyData.isTuple (mvar 0)))) (mtest (m2 neD (mL lenD (mcons (mvar 0) (mnil))) (mpure (.int 4))))) (sret (mpure (.bool false))) (snext))
    (sseq (sasg (.tp [.nm 1, .nm 2, .nm 3, .nm 4]) (mvar 0))
    (sseq (sif (mor (mnot (mtest (mcall 1 φ_are_names (mcons (mvar 1) (mnil))))) (mor (mnot (mchT leD leD (mpure (.int 3)) (mL lenD (mcons (mvar 1) (mnil))) (mpure (.int 4)))) (mor (mnot (mtest (mL allD (mcons (mfrz (mcomp (msrc (mvar 1)) [5] (.nm 5) (mtrue) (mcall 1 φ_is_word (mcons (mvar 5) (mnil))))) (mnil))))) (mnot (mtest (mcall 1 φ_rise (mcons (mvar 1) (mnil)))))))) (sret (mpure (.bool false))) (snext))
    (sseq (sif (mor (mnot (mtest (mcall 3 φ_is_whole (mcons (mvar 2) (mcons (mpure (.int 1)) (mcons (mL lenD (mcons (mvar 1) (mnil))) (mnil))))))) (mor (mnot (mtest (mcall 3 φ_is_whole (mcons (mvar 3) (mcons (mpure (.int 1)) (mcons (mL lenD (mcons (mvar 1) (mnil))) (mnil))))))) (mnot (mtest (isiM PyData.isTuple (mvar 4)))))) (sret (mpure (.bool false))) (snext))
    (sseq (sif (mor (mnot (mtest (mL allD (mcons (mfrz (mcomp (msrc (mvar 4)) [5] (.nm 5) (mtrue) (mcall 1 φ_are_names (mcons (mvar 5) (mnil))))) (mnil))))) (mnot (mtest (mcall 1 φ_rise (mcons (mvar 4) (mnil)))))) (sret (mpure (.bool false))) (snext))
    (sret (mL allD (mcons (mfrz (mcomp (msrc (mvar 4)) [5] (.nm 5) (mtrue) (m2 inD (mvar 5) (mcall 1 φ_two_by_two (mcons (mvar 1) (mnil)))))) (mnil))))))))
def φ_is_house : Phi := fnPhi 5 m_is_house
theorem ok_is_house (B : Bl mg) (hKT : KT K) (D : DefF K mg "is_house" "is_house" s_is_house ["thing"]) (h_rise : DOk P w K mg base Y 1 "rise" 1 φ_rise) (h_is_word : DOk P w K mg base Y 1 "is_word" 1 φ_is_word) (h_are_names : DOk P w K mg base Y 1 "are_names" 1 φ_are_names) (h_is_whole : DOk P w K mg base Y 1 "is_whole" 3 φ_is_whole) (h_two_by_two : DOk P w K mg base Y 1 "two_by_two" 1 φ_two_by_two) : DOk P w K mg base Y 2 "is_house" 1 φ_is_house := by
  refine dok (k := 1) D sc_is_house fun f cdv A outer s H vs E hr hl => ?_
  have hN := sc_is_house.nd
  exact (pb_cons (pd_ifS (pb_w (pb_or (pb_not (pb_val (pd_isi isi_tuple rfl (pd_var 0) B.isinstance B.tuple (by rfl)))) (pb_or1 (pb_cmpD (opD_ne (hu64 hr)) rfl (pd_bltD (callD_len) rfl B.len (by rfl) (pl_cons (pd_var 0) pl_nil)) pd_int)))) (pb_one (pd_ret pd_bool)) pb_nil)
    (pb_cons (pd_asg (pd_var 0) (pg_tp rfl rfl (pgs_cn (pg_nm 1 hN) (pgs_cn (pg_nm 2 hN) (pgs_cn (pg_nm 3 hN) (pgs_cn (pg_nm 4 hN) pgs_nl))))))
    (pb_cons (pd_ifS (pb_w (pb_or (pb_not (pb_val (pd_def h_are_names rfl hr (by omega) (L2N.takes_of rfl rfl rfl rfl) (pl_cons (pd_var 1) pl_nil)))) (pb_or (pb_not (pb_chainD (opD_le (hu64 hr)) (opD_le (hu64 hr)) rfl pd_int (pd_bltD (callD_len) rfl B.len (by rfl) (pl_cons (pd_var 1) pl_nil)) pd_int)) (pb_or (pb_not (pb_val (pd_bltD (callD_all rfl) rfl B.all (by rfl) (pl_cons (pd_of (po_lc [("one", 5)] [5] rfl hN (pi_src rfl (pd_var 1)) rfl (by decide) (blkOk_by (by kernel_rfl)) (fun _ _ _ _ _ => (pg_nm 5 hN)) (fun _ _ _ _ _ => pts_yes) (fun _ _ _ _ _ => (pd_def h_is_word rfl hr (by omega) takesN0 (pl_cons (pd_var 5) pl_nil))))) pl_nil)))) (pb_or1 (pb_not (pb_val (pd_def h_rise rfl hr (by omega) (L2N.takes_of rfl rfl rfl rfl) (pl_cons (pd_var 1) pl_nil))))))))) (pb_one (pd_ret pd_bool)) pb_nil)
    (pb_cons (pd_ifS (pb_w (pb_or (pb_not (pb_val (pd_def h_is_whole rfl hr (by omega) (L2N.takes_of rfl rfl rfl rfl) (pl_cons (pd_var 2) (pl_cons pd_int (pl_cons (pd_bltD (callD_len) rfl B.len (by rfl) (pl_cons (pd_var 1) pl_nil)) pl_nil)))))) (pb_or (pb_not (pb_val (pd_def h_is_whole rfl hr (by omega) (L2N.takes_of rfl rfl rfl rfl) (pl_cons (pd_var 3) (pl_cons pd_int (pl_cons (pd_bltD (callD_len) rfl B.len (by rfl) (pl_cons (pd_var 1) pl_nil)) pl_nil)))))) (pb_or1 (pb_not (pb_val (pd_isi isi_tuple rfl (pd_var 4) B.isinstance B.tuple (by rfl)))))))) (pb_one (pd_ret pd_bool)) pb_nil)
    (pb_cons (pd_ifS (pb_w (pb_or (pb_not (pb_val (pd_bltD (callD_all rfl) rfl B.all (by rfl) (pl_cons (pd_of (po_lc [("one", 5)] [5] rfl hN (pi_src rfl (pd_var 4)) rfl (by decide) (blkOk_by (by kernel_rfl)) (fun _ _ _ _ _ => (pg_nm 5 hN)) (fun _ _ _ _ _ => pts_yes) (fun _ _ _ _ _ => (pd_def h_are_names rfl hr (by omega) takesN0 (pl_cons (pd_var 5) pl_nil))))) pl_nil)))) (pb_or1 (pb_not (pb_val (pd_def h_rise rfl hr (by omega) (L2N.takes_of rfl rfl rfl rfl) (pl_cons (pd_var 4) pl_nil))))))) (pb_one (pd_ret pd_bool)) pb_nil)
    (pb_one (pd_ret (pd_bltD (callD_all rfl) rfl B.all (by rfl) (pl_cons (pd_of (po_lc [("one", 5)] [5] rfl hN (pi_src rfl (pd_var 4)) rfl (by decide) (blkOk_by (by kernel_rfl)) (fun _ _ _ _ _ => (pg_nm 5 hN)) (fun _ _ _ _ _ => pts_yes) (fun _ _ _ _ _ => (pd_cmpD (opD_in (hu65 hr)) rfl (pd_var 5) (pd_def h_two_by_two rfl hr (by omega) takesN0 (pl_cons (pd_var 1) pl_nil)))))) pl_nil)))))))))
abbrev s_need_house : Stmt := top 22
theorem sc_need_house : FnScope ["thing"] ["thing"] (defScope s_need_house) := ⟨rfl, rfl, rfl, by decide +kernel, rfl, by decide +kernel, by decide +kernel⟩
def m_need_house : MS := sif (mnot (mtest (mcall 1 φ_is_house (mcons (mvar 0) (mnil))))) (sraise 1) (snext)
def φ_need_house : Phi := fnPhi 0 m_need_house
theorem ok_need_house (B : Bl mg) (hKT : KT K) (D : DefF K mg "need_house" "need_house" s_need_house ["thing"]) (h_is_house : DOk P w K mg base Y 2 "is_house" 1 φ_is_house) (x_BadHouse : ExF K mg "BadHouse" (Y.ex 1)) : DOk P w K mg base Y 3 "need_house" 1 φ_need_house := by
  refine dok (k := 2) D sc_need_house fun f cdv A outer s H vs E hr hl => ?_
  have hN := sc_need_house.nd
  exact (pb_one (pd_ifS (pb_not (pb_val (pd_def h_is_house rfl hr (by omega) (L2N.takes_of rfl rfl rfl rfl) (pl_cons (pd_var 0) pl_nil)))) (pb_one (pd_raiseF 1 x_BadHouse rfl (L2N.takes_of rfl rfl rfl rfl))) pb_nil))
abbrev s_partings : Stmt := top 23
theorem sc_partings : FnScope ["folk", "found", "parting", "at", "group"] ["folk"] (defScope s_partings) := ⟨rfl, rfl, rfl, by decide +kernel, rfl, by decide +kernel, by decide +kernel⟩
def m_partings (φ : Phi) : MS := sseq (sif (mtest (m2 eqD (mvar 0) (mL mkTup (mnil)))) (sret (mL mkLst (mcons (mL mkTup (mnil)) (mnil)))) (snext))
    (sseq (ssetO 1 (mLst (mnil)))
    (sseq (sfor (msrc (mcall 1 (φ) (mcons (msl (mvar 0) (mprt (mpure (.int 1))) (mnoP)) (mnil)))) (.nm 2) (sseq (sexpr (mappend 1 (m2 addD (mL mkTup (mcons (mL mkTup (mcons (m2 ixD (mvar 0) (mpure (.int 0))) (mnil))) (mnil))) (mvar 2))))
    (sfor (menum (mvar 2)) (.tp [.nm 3, .nm 4]) (sexpr (mappend 1 (m2 addD (m2 addD (msl (mvar 2) (mnoP) (mprt (mvar 3))) (mL mkTup (mcons (m2 addD (mL mkTup (mcons (m2 ixD (mvar 0) (mpure (.int 0))) (mnil))) (mvar 4)) (mnil)))) (msl (mvar 2) (mprt (m2 addD (mvar 3) (mpure (.int 1)))) (mnoP))))))))
    (sret (mvar 1))))
def φ_partings : Nat → Phi
  | 0 => fun _ => none
  | n + 1 => fnPhi 4 (m_partings (φ_partings n))
theorem ok_partings (B : Bl mg) (hKT : KT K) (D : DefF K mg "partings" "partings" s_partings ["folk"])  : ∀ n : Nat, DOk P w K mg base Y (1 + n) "partings" 1 (φ_partings n)
  | 0 => (dok (k := 0) D sc_partings fun f cdv A outer s H vs E hr hl => pb_dead).le fun _ _ h => h
  | n + 1 => by
    have hrec := ok_partings B hKT D  n
    refine dok (k := 1 + n) D sc_partings fun f cdv A outer s H vs E hr hl => ?_
    have hN := sc_partings.nd
    exact (pb_cons (pd_ifS (pb_cmpD (opD_eq (hu64 hr)) rfl (pd_var 0) (pd_tup pl_nil)) (pb_one (pd_ret (pd_lst (pl_cons (pd_tup pl_nil) pl_nil)))) pb_nil)
    (pb_cons (pd_setO 1 hN (po_lst pl_nil) (hl0 hl))
    (pb_cons (pd_for PassesOwn.leaving rfl (pi_src rfl (pd_def hrec rfl hr (by omega) (L2N.takes_of rfl rfl rfl rfl) (pl_cons (pd_sl rfl (pd_var 0) (pt_e pd_int) pt_no) pl_nil))) (pg_nm 2 hN) (pb_cons (pd_expr (pd_append 1 ⟨rfl, by first | exact Or.inl rfl | exact Or.inr (Or.inl rfl) | exact Or.inr (Or.inr rfl), by decide, by decide⟩ (pd_opD opD_add rfl (pd_tup (pl_cons (pd_tup (pl_cons (pd_ixD rfl (pd_var 0) pd_int) pl_nil)) pl_nil)) (pd_var 2))))
    (pb_one (pd_for PassesOwn.leaving rfl (pi_enumD rfl (pd_var 2) B.enumerate) (pg_tp rfl rfl (pgs_cn (pg_nm 3 hN) (pgs_cn (pg_nm 4 hN) pgs_nl))) (pb_one (pd_expr (pd_append 1 ⟨rfl, by first | exact Or.inl rfl | exact Or.inr (Or.inl rfl) | exact Or.inr (Or.inr rfl), by decide, by decide⟩ (pd_opD opD_add rfl (pd_opD opD_add rfl (pd_sl rfl (pd_var 2) pt_no (pt_e (pd_var 3))) (pd_tup (pl_cons (pd_opD opD_add rfl (pd_tup (pl_cons (pd_ixD rfl (pd_var 0) pd_int) pl_nil)) (pd_var 4)) pl_nil))) (pd_sl rfl (pd_var 2) (pt_e (pd_opD opD_add rfl (pd_var 3) pd_int)) pt_no)))))))))
    (pb_one (pd_ret (pd_var 1))))))
abbrev s_is_let : Stmt := top 24
theorem sc_is_let : FnScope ["house", "seating", "group", "one", "other"] ["house", "seating"] (defScope s_is_let) := ⟨rfl, rfl, rfl, by decide +kernel, rfl, by decide +kernel, by decide +kernel⟩
def m_is_let : MS := sseq (sif (mor (mtest (m2 gtD (mL lenD (mcons (mvar 1) (mnil))) (m2 ixD (mvar 0) (mpure (.int 1))))) (mtest (m2 gtD (mL maxD' (mcons (mfrz (mcomp (msrc (mvar 1)) [2] (.nm 2) (mtrue) (mL lenD (mcons (mvar 2) (mnil))))) (mnil))) (m2 ixD (mvar 0) (mpure (.int 2)))))) (sret (mpure (.bool false))) (snext))
    (sret (mnotV (mL anyD (mcons (mfrz (mcomp2 (msrc (m2 ixD (mvar 0) (mpure (.int 3)))) [2, 3, 4] (.tp [.nm 3, .nm 4]) (mtrue) (msrc (mvar 1)) [2] (.nm 2) (mtrue) (mandV (m2 inD (mvar 3) (mvar 2)) (m2 inD (mvar 4) (mvar 2))))) (mnil)))))
def φ_is_let : Phi := fnPhi 3 m_is_let
theorem ok_is_let (B : Bl mg) (hKT : KT K) (D : DefF K mg "is_let" "is_let" s_is_let ["house", "seating"])  : DOk P w K mg base Y 1 "is_let" 2 φ_is_let := by
  refine dok (k := 0) D sc_is_let fun f cdv A outer s H vs E hr hl => ?_
  have hN := sc_is_let.nd
  exact (pb_cons (pd_ifS (pb_w (pb_or (pb_cmpD (opD_gt (hu64 hr)) rfl (pd_bltD (callD_len) rfl B.len (by rfl) (pl_cons (pd_var 1) pl_nil)) (pd_ixD rfl (pd_var 0) pd_int)) (pb_or1 (pb_cmpD (opD_gt (hu64 hr)) rfl (pd_bltD (cr_maxD' rfl (hu65 hr)) rfl B.max (by rfl) (pl_cons (pd_of (po_lc [("group", 2)] [2] rfl hN (pi_src rfl (pd_var 1)) rfl (by decide) (blkOk_by (by kernel_rfl)) (fun _ _ _ _ _ => (pg_nm 2 hN)) (fun _ _ _ _ _ => pts_yes) (fun _ _ _ _ _ => (pd_bltD (callD_len) rfl B.len (by rfl) (pl_cons (pd_var 2) pl_nil))))) pl_nil)) (pd_ixD rfl (pd_var 0) pd_int))))) (pb_one (pd_ret pd_bool)) pb_nil)
    (pb_one (pd_ret (pd_not (pd_bltD (callD_any rfl) rfl B.any (by rfl) (pl_cons (pd_of (po_lc2 [("group", 2), ("one", 3), ("other", 4)] [2, 3, 4] [2] rfl hN (pi_src rfl (pd_ixD rfl (pd_var 0) pd_int)) rfl (by decide) (by decide) (by decide) (blkOk_by (by kernel_rfl)) (fun _ _ _ _ _ => (pg_tp rfl rfl (pgs_cn (pg_nm 3 hN) (pgs_cn (pg_nm 4 hN) pgs_nl)))) (fun _ _ _ _ _ => pts_yes) (fun _ _ _ _ _ => (pi_src rfl (pd_var 1))) (fun _ _ _ _ _ => (pg_nm 2 hN)) (fun _ _ _ _ _ => pts_yes) (fun _ _ _ _ _ => (pd_and (pd_cmpD (opD_in (hu65 hr)) rfl (pd_var 3) (pd_var 2)) (pd_one (pd_cmpD (opD_in (hu65 hr)) rfl (pd_var 4) (pd_var 2))))))) pl_nil))))))
abbrev s_all_seatings : Stmt := top 25
theorem sc_all_seatings : FnScope ["house", "some", "parting", "seating"] ["house"] (defScope s_all_seatings) := ⟨rfl, rfl, rfl, by decide +kernel, rfl, by decide +kernel, by decide +kernel⟩
def m_all_seatings : MS := sseq (sasg (.nm 1) (mfrz (mcomp (msrc (mcall 1 (φ_partings fuel) (mcons (m2 ixD (mvar 0) (mpure (.int 0))) (mnil)))) [2] (.nm 2) (mtrue) (mL tupleD (mcons (mL sortedD2 (mcons (mvar 2) (mnil))) (mnil))))))
    (sret (mL sortedD2 (mcons (mfrz (mcomp (msrc (mvar 1)) [3] (.nm 3) (mtest (mcall 2 φ_is_let (mcons (mvar 0) (mcons (mvar 3) (mnil))))) (mvar 3))) (mnil))))
def φ_all_seatings : Phi := fnPhi 3 m_all_seatings
theorem ok_all_seatings (B : Bl mg) (hKT : KT K) (D : DefF K mg "all_seatings" "all_seatings" s_all_seatings ["house"]) (h_partings : DOk P w K mg base Y 9 "partings" 1 (φ_partings fuel)) (h_is_let : DOk P w K mg base Y 1 "is_let" 2 φ_is_let) : DOk P w K mg base Y 10 "all_seatings" 1 φ_all_seatings := by
  refine dok (k := 9) D sc_all_seatings fun f cdv A outer s H vs E hr hl => ?_
  have hN := sc_all_seatings.nd
  exact (pb_cons (pd_setLc 1 [("parting", 2)] [2] rfl hN (pi_src rfl (pd_def h_partings rfl hr (by omega) (L2N.takes_of rfl rfl rfl rfl) (pl_cons (pd_ixD rfl (pd_var 0) pd_int) pl_nil))) rfl (by decide) (blkOk_by (by kernel_rfl)) (fun _ _ _ _ _ => (pg_nm 2 hN)) (fun _ _ _ _ _ => pts_yes) (fun _ _ _ _ _ => (pd_tyD callD_tuple rfl B.tuple (by rfl) (pl_cons (pd_bltD (callD_sorted2 (hu67 hr)) rfl B.sorted (by rfl) (pl_cons (pd_var 2) pl_nil)) pl_nil))))
    (pb_one (pd_ret (pd_bltD (callD_sorted2 (hu67 hr)) rfl B.sorted (by rfl) (pl_cons (pd_of (po_lc [("seating", 3)] [3] rfl hN (pi_src rfl (pd_var 1)) rfl (by decide) (blkOk_by (by kernel_rfl)) (fun _ _ _ _ _ => (pg_nm 3 hN)) (fun _ _ _ _ _ => (pts_if (pb_val (pd_def h_is_let rfl hr (by omega) takesN0 (pl_cons (pd_var 0) (pl_cons (pd_var 3) pl_nil)))))) (fun _ _ _ _ _ => (pd_var 3)))) pl_nil)))))
abbrev s_seatings : Stmt := top 26
theorem sc_seatings : FnScope ["house"] ["house"] (defScope s_seatings) := ⟨rfl, rfl, rfl, by decide +kernel, rfl, by decide +kernel, by decide +kernel⟩
def m_seatings : MS := sseq (sexpr (mcall 1 φ_need_house (mcons (mvar 0) (mnil))))
    (sret (mcall 1 φ_all_seatings (mcons (mvar 0) (mnil))))
def φ_seatings : Phi := fnPhi 0 m_seatings
theorem ok_seatings (B : Bl mg) (hKT : KT K) (D : DefF K mg "seatings" "seatings" s_seatings ["house"]) (h_need_house : DOk P w K mg base Y 3 "need_house" 1 φ_need_house) (h_all_seatings : DOk P w K mg base Y 10 "all_seatings" 1 φ_all_seatings) : DOk P w K mg base Y 11 "seatings" 1 φ_seatings := by
  refine dok (k := 10) D sc_seatings fun f cdv A outer s H vs E hr hl => ?_
  have hN := sc_seatings.nd
  exact (pb_cons (pd_expr (pd_def h_need_house rfl hr (by omega) (L2N.takes_of rfl rfl rfl rfl) (pl_cons (pd_var 0) pl_nil)))
    (pb_one (pd_ret (pd_def h_all_seatings rfl hr (by omega) (L2N.takes_of rfl rfl rfl rfl) (pl_cons (pd_var 0) pl_nil)))))
abbrev s_is_good_seating : Stmt := top 27
theorem sc_is_good_seating : FnScope ["house", "thing", "group"] ["house", "thing"] (defScope s_is_good_seating) := ⟨rfl, rfl, rfl, by decide +kernel, rfl, by decide +kernel, by decide +kernel⟩
def m_is_good_seating : MS := sret (mandV (isiM PyData.isTuple (mvar 1)) (mandV (mL allD (mcons (mfrz (mcomp (msrc (mvar 1)) [2] (.nm 2) (mtrue) (mcall 1 φ_are_names (mcons (mvar 2) (mnil))))) (mnil))) (m2 inD (mvar 1) (mcall 1 φ_all_seatings (mcons (mvar 0) (mnil))))))
def φ_is_good_seating : Phi := fnPhi 1 m_is_good_seating
theorem ok_is_good_seating (B : Bl mg) (hKT : KT K) (D : DefF K mg "is_good_seating" "is_good_seating" s_is_good_seating ["house", "thing"]) (h_all_seatings : DOk P w K mg base Y 10 "all_seatings" 1 φ_all_seatings) (h_are_names : DOk P w K mg base Y 1 "are_names" 1 φ_are_names) : DOk P w K mg base Y 11 "is_good_seating" 2 φ_is_good_seating := by
  refine dok (k := 10) D sc_is_good_seating fun f cdv A outer s H vs E hr hl => ?_
  have hN := sc_is_good_seating.nd
  exact (pb_one (pd_ret (pd_and (pd_isi isi_tuple rfl (pd_var 1) B.isinstance B.tuple (by rfl)) (pd_and (pd_bltD (callD_all rfl) rfl B.all (by rfl) (pl_cons (pd_of (po_lc [("group", 2)] [2] rfl hN (pi_src rfl (pd_var 1)) rfl (by decide) (blkOk_by (by kernel_rfl)) (fun _ _ _ _ _ => (pg_nm 2 hN)) (fun _ _ _ _ _ => pts_yes) (fun _ _ _ _ _ => (pd_def h_are_names rfl hr (by omega) takesN0 (pl_cons (pd_var 2) pl_nil))))) pl_nil)) (pd_one (pd_cmpD (opD_in (hu65 hr)) rfl (pd_var 1) (pd_def h_all_seatings rfl hr (by omega) (L2N.takes_of rfl rfl rfl rfl) (pl_cons (pd_var 0) pl_nil))))))))
abbrev s_is_seating : Stmt := top 28
theorem sc_is_seating : FnScope ["house", "thing"] ["house", "thing"] (defScope s_is_seating) := ⟨rfl, rfl, rfl, by decide +kernel, rfl, by decide +kernel, by decide +kernel⟩
def m_is_seating : MS := sseq (sexpr (mcall 1 φ_need_house (mcons (mvar 0) (mnil))))
    (sret (mcall 2 φ_is_good_seating (mcons (mvar 0) (mcons (mvar 1) (mnil)))))
def φ_is_seating : Phi := fnPhi 0 m_is_seating
theorem ok_is_seating (B : Bl mg) (hKT : KT K) (D : DefF K mg "is_seating" "is_seating" s_is_seating ["house", "thing"]) (h_need_house : DOk P w K mg base Y 3 "need_house" 1 φ_need_house) (h_is_good_seating : DOk P w K mg base Y 11 "is_good_seating" 2 φ_is_good_seating) : DOk P w K mg base Y 12 "is_seating" 2 φ_is_seating := by
  refine dok (k := 11) D sc_is_seating fun f cdv A outer s H vs E hr hl => ?_
  have hN := sc_is_seating.nd
  exact (pb_cons (pd_expr (pd_def h_need_house rfl hr (by omega) (L2N.takes_of rfl rfl rfl rfl) (pl_cons (pd_var 0) pl_nil)))
    (pb_one (pd_ret (pd_def h_is_good_seating rfl hr (by omega) (L2N.takes_of rfl rfl rfl rfl) (pl_cons (pd_var 0) (pl_cons (pd_var 1) pl_nil))))))
abbrev s_need_seating : Stmt := top 29
theorem sc_need_seating : FnScope ["house", "thing"] ["house", "thing"] (defScope s_need_seating) := ⟨rfl, rfl, rfl, by decide +kernel, rfl, by decide +kernel, by decide +kernel⟩
def m_need_seating : MS := sif (mnot (mtest (mcall 2 φ_is_good_seating (mcons (mvar 0) (mcons (mvar 1) (mnil)))))) (sraise 3) (snext)
def φ_need_seating : Phi := fnPhi 0 m_need_seating
theorem ok_need_seating (B : Bl mg) (hKT : KT K) (D : DefF K mg "need_seating" "need_seating" s_need_seating ["house", "thing"]) (h_is_good_seating : DOk P w K mg base Y 11 "is_good_seating" 2 φ_is_good_seating) (x_BadSeating : ExF K mg "BadSeating" (Y.ex 3)) : DOk P w K mg base Y 12 "need_seating" 2 φ_need_seating := by
  refine dok (k := 11) D sc_need_seating fun f cdv A outer s H vs E hr hl => ?_
  have hN := sc_need_seating.nd
  exact (pb_one (pd_ifS (pb_not (pb_val (pd_def h_is_good_seating rfl hr (by omega) (L2N.takes_of rfl rfl rfl rfl) (pl_cons (pd_var 0) (pl_cons (pd_var 1) pl_nil))))) (pb_one (pd_raiseF 3 x_BadSeating rfl (L2N.takes_of rfl rfl rfl rfl))) pb_nil))
abbrev s_need_name : Stmt := top 30
theorem sc_need_name : FnScope ["house", "one"] ["house", "one"] (defScope s_need_name) := ⟨rfl, rfl, rfl, by decide +kernel, rfl, by decide +kernel, by decide +kernel⟩
def m_need_name : MS := sif (mor (mnot (mtest (isiM PyData.isStr (mvar 1)))) (mtest (m2 notInD (mvar 1) (m2 ixD (mvar 0) (mpure (.int 0)))))) (sraise 2) (snext)
def φ_need_name : Phi := fnPhi 0 m_need_name
theorem ok_need_name (B : Bl mg) (hKT : KT K) (D : DefF K mg "need_name" "need_name" s_need_name ["house", "one"]) (x_BadName : ExF K mg "BadName" (Y.ex 2)) : DOk P w K mg base Y 1 "need_name" 2 φ_need_name := by
  refine dok (k := 0) D sc_need_name fun f cdv A outer s H vs E hr hl => ?_
  have hN := sc_need_name.nd
  exact (pb_one (pd_ifS (pb_w (pb_or (pb_not (pb_val (pd_isi isi_str rfl (pd_var 1) B.isinstance B.str (by rfl)))) (pb_or1 (pb_cmpD (opD_notIn (hu65 hr)) rfl (pd_var 1) (pd_ixD rfl (pd_var 0) pd_int))))) (pb_one (pd_raiseF 2 x_BadName rfl (L2N.takes_of rfl rfl rfl rfl))) pb_nil))
abbrev s_do_sit : Stmt := top 31
theorem sc_do_sit : FnScope ["seating", "some", "one", "group"] ["seating", "some"] (defScope s_do_sit) := ⟨rfl, rfl, rfl, by decide +kernel, rfl, by decide +kernel, by decide +kernel⟩
def m_do_sit : MS := sret (mL anyD (mcons (mfrz (mcomp (msrc (mvar 0)) [3] (.nm 3) (mtrue) (mL allD (mcons (mfrz (mcomp (msrc (mvar 1)) [2] (.nm 2) (mtrue) (m2 inD (mvar 2) (mvar 3)))) (mnil))))) (mnil)))
def φ_do_sit : Phi := fnPhi 2 m_do_sit
theorem ok_do_sit (B : Bl mg) (hKT : KT K) (D : DefF K mg "do_sit" "do_sit" s_do_sit ["seating", "some"])  : DOk P w K mg base Y 1 "do_sit" 2 φ_do_sit := by
  refine dok (k := 0) D sc_do_sit fun f cdv A outer s H vs E hr hl => ?_
  have hN := sc_do_sit.nd
  exact (pb_one (pd_ret (pd_bltD (callD_any rfl) rfl B.any (by rfl) (pl_cons (pd_of (po_lc [("group", 3)] [3] rfl hN (pi_src rfl (pd_var 0)) rfl (by decide) (blkOk_by (by kernel_rfl)) (fun _ _ _ _ _ => (pg_nm 3 hN)) (fun _ _ _ _ _ => pts_yes) (fun _ _ _ _ _ => (pd_bltD (callD_all rfl) rfl B.all (by rfl) (pl_cons (pd_of (po_lc [("one", 2)] [2] rfl hN (pi_src rfl (pd_var 1)) rfl (by decide) (blkOk_by (by kernel_rfl)) (fun _ _ _ _ _ => (pg_nm 2 hN)) (fun _ _ _ _ _ => pts_yes) (fun _ _ _ _ _ => (pd_cmpD (opD_in (hu65 hr)) rfl (pd_var 2) (pd_var 3))))) pl_nil))))) pl_nil))))
abbrev s_together : Stmt := top 32
theorem sc_together : FnScope ["house", "seating", "one", "other"] ["house", "seating", "one", "other"] (defScope s_together) := ⟨rfl, rfl, rfl, by decide +kernel, rfl, by decide +kernel, by decide +kernel⟩
def m_together : MS := sseq (sexpr (mcall 1 φ_need_house (mcons (mvar 0) (mnil))))
    (sseq (sexpr (mcall 2 φ_need_seating (mcons (mvar 0) (mcons (mvar 1) (mnil)))))
    (sseq (sexpr (mcall 2 φ_need_name (mcons (mvar 0) (mcons (mvar 2) (mnil)))))
    (sseq (sexpr (mcall 2 φ_need_name (mcons (mvar 0) (mcons (mvar 3) (mnil)))))
    (sret (mcall 2 φ_do_sit (mcons (mvar 1) (mcons (mL mkTup (mcons (mvar 2) (mcons (mvar 3) (mnil)))) (mnil))))))))
def φ_together : Phi := fnPhi 0 m_together
theorem ok_together (B : Bl mg) (hKT : KT K) (D : DefF K mg "together" "together" s_together ["house", "seating", "one", "other"]) (h_need_house : DOk P w K mg base Y 3 "need_house" 1 φ_need_house) (h_need_seating : DOk P w K mg base Y 12 "need_seating" 2 φ_need_seating) (h_need_name : DOk P w K mg base Y 1 "need_name" 2 φ_need_name) (h_do_sit : DOk P w K mg base Y 1 "do_sit" 2 φ_do_sit) : DOk P w K mg base Y 13 "together" 4 φ_together := by
  refine dok (k := 12) D sc_together fun f cdv A outer s H vs E hr hl => ?_
  have hN := sc_together.nd
  exact (pb_cons (pd_expr (pd_def h_need_house rfl hr (by omega) (L2N.takes_of rfl rfl rfl rfl) (pl_cons (pd_var 0) pl_nil)))
    (pb_cons (pd_expr (pd_def h_need_seating rfl hr (by omega) (L2N.takes_of rfl rfl rfl rfl) (pl_cons (pd_var 0) (pl_cons (pd_var 1) pl_nil))))
    (pb_cons (pd_expr (pd_def h_need_name rfl hr (by omega) (L2N.takes_of rfl rfl rfl rfl) (pl_cons (pd_var 0) (pl_cons (pd_var 2) pl_nil))))
    (pb_cons (pd_expr (pd_def h_need_name rfl hr (by omega) (L2N.takes_of rfl rfl rfl rfl) (pl_cons (pd_var 0) (pl_cons (pd_var 3) pl_nil))))
    (pb_one (pd_ret (pd_def h_do_sit rfl hr (by omega) (L2N.takes_of rfl rfl rfl rfl) (pl_cons (pd_var 1) (pl_cons (pd_tup (pl_cons (pd_var 2) (pl_cons (pd_var 3) pl_nil))) pl_nil)))))))))
abbrev s_Book___init__ : Stmt := inClass (top 38) 0
theorem sc_Book___init__ : FnScope ["self", "house"] ["self", "house"] (defScope s_Book___init__) := ⟨rfl, rfl, rfl, by decide +kernel, rfl, by decide +kernel, by decide +kernel⟩
def m_Book___init__ : MS := sseq (sexpr (mcall 1 φ_need_house (mcons (mvar 1) (mnil))))
    (sseq (ssetF 0 0 "home" (mvar 1))
    (ssetFO 0 0 "sat" (mLst (mnil))))
def φ_Book___init__ : Phi := fnPhi 0 m_Book___init__
theorem ok_Book___init__ (B : Bl mg) (hKT : KT K) (D : DefI K mg (Y.cl 0) "Book" "Book.__init__" s_Book___init__ ["self", "house"]) (hc_Book : Cls K (Y.cl 0)) (hf_Book_home : NoAttr K (Y.cl 0) "home") (hf_Book_sat : NoAttr K (Y.cl 0) "sat") (h_need_house : DOk P w K mg base Y 3 "need_house" 1 φ_need_house) : IOk P w K mg base Y 4 0 "Book" 2 φ_Book___init__ := by
  refine iok (k := 3) D sc_Book___init__ fun f cdv A outer s H vs E hr hl => ?_
  have hN := sc_Book___init__.nd
  exact (pb_cons (pd_expr (pd_def h_need_house rfl hr (by omega) (L2N.takes_of rfl rfl rfl rfl) (pl_cons (pd_var 1) pl_nil)))
    (pb_cons (pd_setF 0 0 rfl hc_Book hf_Book_home ⟨rfl, by first | exact Or.inl rfl | exact Or.inr (Or.inl rfl) | exact Or.inr (Or.inr rfl), by decide, by decide⟩ (pd_var 1))
    (pb_one (pd_setFO 0 0 rfl hc_Book hf_Book_sat ⟨rfl, by first | exact Or.inl rfl | exact Or.inr (Or.inl rfl) | exact Or.inr (Or.inr rfl), by decide, by decide⟩ (po_lst pl_nil)))))
abbrev s_Book_sit : Stmt := inClass (top 38) 2
theorem sc_Book_sit : FnScope ["self", "seating"] ["self", "seating"] (defScope s_Book_sit) := ⟨rfl, rfl, rfl, by decide +kernel, rfl, by decide +kernel, by decide +kernel⟩
def m_Book_sit : MS := sseq (sexpr (mcall 2 φ_need_seating (mcons (mfld 0 0 "home") (mcons (mvar 1) (mnil)))))
    (dead)
def φ_Book_sit : Phi := fnPhi 0 m_Book_sit
theorem ok_Book_sit (B : Bl mg) (hKT : KT K) (D : DefM K (Y.cl 0) "sit" "Book.sit" s_Book_sit ["self", "seating"]) (hc_Book : Cls K (Y.cl 0)) (hf_Book_home : NoAttr K (Y.cl 0) "home") (h_need_seating : DOk P w K mg base Y 12 "need_seating" 2 φ_need_seating) : MOk P w K mg base Y 13 0 "sit" 2 φ_Book_sit := by
  refine mok (k := 12) D hc_Book sc_Book_sit fun f cdv A outer s H vs E hr hl => ?_
  have hN := sc_Book_sit.nd
  exact (pb_cons (pd_expr (pd_def h_need_seating rfl hr (by omega) (L2N.takes_of rfl rfl rfl rfl) (pl_cons (pd_fld 0 0 rfl hc_Book hf_Book_home ⟨rfl, by first | exact Or.inl rfl | exact Or.inr (Or.inl rfl) | exact Or.inr (Or.inr rfl), by decide, by decide⟩) (pl_cons (pd_var 1) pl_nil))))
    pb_dead)
abbrev s_seating_text : Stmt := top 41
theorem sc_seating_text : FnScope ["house", "seating"] ["house", "seating"] (defScope s_seating_text) := ⟨rfl, rfl, rfl, by decide +kernel, rfl, by decide +kernel, by decide +kernel⟩
def m_seating_text : MS := sseq (sexpr (mcall 1 φ_need_house (mcons (mvar 0) (mnil))))
    (sseq (sexpr (mcall 2 φ_need_seating (mcons (mvar 0) (mcons (mvar 1) (mnil)))))
    (dead))
def φ_seating_text : Phi := fnPhi 0 m_seating_text
theorem ok_seating_text (B : Bl mg) (hKT : KT K) (D : DefF K mg "seating_text" "seating_text" s_seating_text ["house", "seating"]) (h_need_house : DOk P w K mg base Y 3 "need_house" 1 φ_need_house) (h_need_seating : DOk P w K mg base Y 12 "need_seating" 2 φ_need_seating) : DOk P w K mg base Y 13 "seating_text" 2 φ_seating_text := by
  refine dok (k := 12) D sc_seating_text fun f cdv A outer s H vs E hr hl => ?_
  have hN := sc_seating_text.nd
  exact (pb_cons (pd_expr (pd_def h_need_house rfl hr (by omega) (L2N.takes_of rfl rfl rfl rfl) (pl_cons (pd_var 0) pl_nil)))
    (pb_cons (pd_expr (pd_def h_need_seating rfl hr (by omega) (L2N.takes_of rfl rfl rfl rfl) (pl_cons (pd_var 0) (pl_cons (pd_var 1) pl_nil))))
    pb_dead))
abbrev s__law_cell : Stmt := top 43
theorem sc__law_cell : FnScope ["_law_script", "_law_k"] ["_law_script", "_law_k"] (defScope s__law_cell) := ⟨rfl, rfl, rfl, by decide +kernel, rfl, by decide +kernel, by decide +kernel⟩
def m__law_cell : MS := sseq (sif (mtest (m2 eqD (mvar 0) (mL mkLst (mnil)))) (sret (m2 mulD (mvar 1) (mpure (.int 7919)))) (snext))
    (sret (m2 addD (m2 ixD (mvar 0) (m2 imodD (mvar 1) (mL lenD (mcons (mvar 0) (mnil))))) (m2 mulD (m2 idivD (mvar 1) (mL lenD (mcons (mvar 0) (mnil)))) (mpure (.int 104729)))))
def φ__law_cell : Phi := fnPhi 0 m__law_cell
theorem ok__law_cell (B : Bl mg) (hKT : KT K) (D : DefF K mg "_law_cell" "_law_cell" s__law_cell ["_law_script", "_law_k"])  : DOk P w K mg base Y 1 "_law_cell" 2 φ__law_cell := by
  refine dok (k := 0) D sc__law_cell fun f cdv A outer s H vs E hr hl => ?_
  have hN := sc__law_cell.nd
  exact (pb_cons (pd_ifS (pb_cmpD (opD_eq (hu64 hr)) rfl (pd_var 0) (pd_lst pl_nil)) (pb_one (pd_ret (pd_opD opD_mul rfl (pd_var 1) pd_int))) pb_nil)
    (pb_one (pd_ret (pd_opD opD_add rfl (pd_ixD rfl (pd_var 0) (pd_opD opD_mod rfl (pd_var 1) (pd_bltD (callD_len) rfl B.len (by rfl) (pl_cons (pd_var 0) pl_nil)))) (pd_opD opD_mul rfl (pd_opD opD_div rfl (pd_var 1) (pd_bltD (callD_len) rfl B.len (by rfl) (pl_cons (pd_var 0) pl_nil))) pd_int)))))
abbrev s__law_drawn : Stmt := top 44
theorem sc__law_drawn : FnScope ["_law_cell_here", "_law_k", "_law_more"] ["_law_cell_here", "_law_k"] (defScope s__law_drawn) := ⟨rfl, rfl, rfl, by decide +kernel, rfl, by decide +kernel, by decide +kernel⟩
def m__law_drawn : MS := sseq (sasg (.nm 2) (m2 imodD (m2 addD (m2 mulD (mvar 0) (mpure (.int 6364136223846793005))) (m2 mulD (m2 addD (mvar 1) (mpure (.int 1))) (mpure (.int 1442695040888963407)))) (mpure (.int 340282366920938463463374607431768211507))))
    (sseq (sasg (.nm 2) (m2 imodD (m2 mulD (mvar 2) (mvar 2)) (mpure (.int 340282366920938463463374607431768211297))))
    (sseq (sasg (.nm 2) (m2 mulD (m2 mulD (m2 addD (m2 imodD (mvar 2) (mpure (.int 18446744073709551557))) (mpure (.int 1))) (m2 addD (m2 idivD (mvar 2) (mpure (.int 18446744073709551557))) (mpure (.int 1)))) (mvar 2)))
    (sret (m2 imodD (mvar 2) (mpure (.int 340282366920938463463374607431768211507))))))
def φ__law_drawn : Phi := fnPhi 1 m__law_drawn
theorem ok__law_drawn (B : Bl mg) (hKT : KT K) (D : DefF K mg "_law_drawn" "_law_drawn" s__law_drawn ["_law_cell_here", "_law_k"])  : DOk P w K mg base Y 1 "_law_drawn" 2 φ__law_drawn := by
  refine dok (k := 0) D sc__law_drawn fun f cdv A outer s H vs E hr hl => ?_
  have hN := sc__law_drawn.nd
  exact (pb_cons (pd_set 2 hN (pd_opD opD_mod rfl (pd_opD opD_add rfl (pd_opD opD_mul rfl (pd_var 0) pd_int) (pd_opD opD_mul rfl (pd_opD opD_add rfl (pd_var 1) pd_int) pd_int)) pd_int))
    (pb_cons (pd_set 2 hN (pd_opD opD_mod rfl (pd_opD opD_mul rfl (pd_var 2) (pd_var 2)) pd_int))
    (pb_cons (pd_set 2 hN (pd_opD opD_mul rfl (pd_opD opD_mul rfl (pd_opD opD_add rfl (pd_opD opD_mod rfl (pd_var 2) pd_int) pd_int) (pd_opD opD_add rfl (pd_opD opD_div rfl (pd_var 2) pd_int) pd_int)) (pd_var 2)))
    (pb_one (pd_ret (pd_opD opD_mod rfl (pd_var 2) pd_int))))))
abbrev s__law_roll : Stmt := top 45
theorem sc__law_roll : FnScope ["_law_dice", "_law_many", "_law_told_here"] ["_law_dice", "_law_many"] (defScope s__law_roll) := ⟨rfl, rfl, rfl, by decide +kernel, rfl, by decide +kernel, by decide +kernel⟩
def m__law_roll : MS := sseq (sif (mtest (m2 geD (mixO 0 (mpure (.int 0))) (m2 ipowD (mpure (.int 10)) (mpure (.int 18))))) (sseq (sasg (.nm 2) (m2 imodD (mixO 0 (mpure (.int 0))) (mvar 1)))
    (sseq (ssetI 0 (mpure (.int 0)) (m2 idivD (mixO 0 (mpure (.int 0))) (mvar 1)))
    (sret (mvar 2)))) (snext))
    (sseq (ssetI 0 (mpure (.int 1)) (m2 addD (mixO 0 (mpure (.int 1))) (mpure (.int 1))))
    (sret (m2 imodD (m2 idivD (mcall 2 φ__law_drawn (mcons (mixO 0 (mpure (.int 0))) (mcons (mixO 0 (mpure (.int 1))) (mnil)))) (mpure (.int 8))) (mvar 1))))
def φ__law_roll : Phi := fnPhi 1 m__law_roll
theorem ok__law_roll (B : Bl mg) (hKT : KT K) (D : DefF K mg "_law_roll" "_law_roll" s__law_roll ["_law_dice", "_law_many"]) (h__law_drawn : DOk P w K mg base Y 1 "_law_drawn" 2 φ__law_drawn) : DOk P w K mg base Y 2 "_law_roll" 2 φ__law_roll := by
  refine dok (k := 1) D sc__law_roll fun f cdv A outer s H vs E hr hl => ?_
  have hN := sc__law_roll.nd
  exact (pb_cons (pd_ifS (pb_cmpD (opD_ge (hu64 hr)) rfl (pd_ixO 0 ⟨rfl, by first | exact Or.inl rfl | exact Or.inr (Or.inl rfl) | exact Or.inr (Or.inr rfl), by decide, by decide⟩ pd_int) (pd_opD opD_pow rfl pd_int pd_int)) (pb_cons (pd_set 2 hN (pd_opD opD_mod rfl (pd_ixO 0 ⟨rfl, by first | exact Or.inl rfl | exact Or.inr (Or.inl rfl) | exact Or.inr (Or.inr rfl), by decide, by decide⟩ pd_int) (pd_var 1)))
    (pb_cons (pd_setI 0 ⟨rfl, by first | exact Or.inl rfl | exact Or.inr (Or.inl rfl) | exact Or.inr (Or.inr rfl), by decide, by decide⟩ (pd_opD opD_div rfl (pd_ixO 0 ⟨rfl, by first | exact Or.inl rfl | exact Or.inr (Or.inl rfl) | exact Or.inr (Or.inr rfl), by decide, by decide⟩ pd_int) (pd_var 1)) pd_int)
    (pb_one (pd_ret (pd_var 2))))) pb_nil)
    (pb_cons (pd_setI 0 ⟨rfl, by first | exact Or.inl rfl | exact Or.inr (Or.inl rfl) | exact Or.inr (Or.inr rfl), by decide, by decide⟩ (pd_opD opD_add rfl (pd_ixO 0 ⟨rfl, by first | exact Or.inl rfl | exact Or.inr (Or.inl rfl) | exact Or.inr (Or.inr rfl), by decide, by decide⟩ pd_int) pd_int) pd_int)
    (pb_one (pd_ret (pd_opD opD_mod rfl (pd_opD opD_div rfl (pd_def h__law_drawn rfl hr (by omega) (L2N.takes_of rfl rfl rfl rfl) (pl_cons (pd_ixO 0 ⟨rfl, by first | exact Or.inl rfl | exact Or.inr (Or.inl rfl) | exact Or.inr (Or.inr rfl), by decide, by decide⟩ pd_int) (pl_cons (pd_ixO 0 ⟨rfl, by first | exact Or.inl rfl | exact Or.inr (Or.inl rfl) | exact Or.inr (Or.inr rfl), by decide, by decide⟩ pd_int) pl_nil))) pd_int) (pd_var 1))))))
abbrev s__law_rounds : Stmt := top 46
theorem sc__law_rounds : FnScope ["_law_script", "_law_high", "_law_k"] ["_law_script", "_law_high"] (defScope s__law_rounds) := ⟨rfl, rfl, rfl, by decide +kernel, rfl, by decide +kernel, by decide +kernel⟩
def m__law_rounds : M (List (List PyData)) := mcompO (mrange1 (mL maxD' (mcons (mpure (.int 1)) (mcons (mL minD' (mcons (mvar 1) (mcons (mL lenD (mcons (mvar 0) (mnil))) (mnil)))) (mnil))))) [2] (.nm 2) (mLst (mcons (mcall 2 φ__law_cell (mcons (mvar 0) (mcons (mvar 2) (mnil)))) (mcons (mpure (.int 0)) (mnil))))
def φ__law_rounds : PhiR := fnPhiR 1 m__law_rounds
theorem ok__law_rounds (B : Bl mg) (hKT : KT K) (D : DefF K mg "_law_rounds" "_law_rounds" s__law_rounds ["_law_script", "_law_high"]) (h__law_cell : DOk P w K mg base Y 1 "_law_cell" 2 φ__law_cell) : ROk P w K mg base Y 2 "_law_rounds" 2 φ__law_rounds := by
  refine rok (k := 1) D sc__law_rounds (fun f cdv A outer s H vs E hr hl => ?_) (by rfl)
  have hN := sc__law_rounds.nd
  exact po_lcO [("_law_k", 2)] [2] rfl hN (pi_rng1 (pd_bltD (cr_maxD' rfl (hu65 hr)) rfl B.max (by rfl) (pl_cons pd_int (pl_cons (pd_bltD (cr_minD rfl (hu65 hr)) rfl B.min (by rfl) (pl_cons (pd_var 1) (pl_cons (pd_bltD (callD_len) rfl B.len (by rfl) (pl_cons (pd_var 0) pl_nil)) pl_nil))) pl_nil))) B.range) rfl (by decide) (blkOk_by (by kernel_rfl)) (fun _ _ _ _ _ => (pg_nm 2 hN)) (fun _ _ _ _ _ => (po_lst (pl_cons (pd_def h__law_cell rfl hr (by omega) takesN0 (pl_cons (pd_var 0) (pl_cons (pd_var 2) pl_nil))) (pl_cons pd_int pl_nil))))
def raised : List Nat := [2, 3]
abbrev s__law_term : Stmt := top 47
theorem sc__law_term : FnScope ["_law_e", "_law_flags", "_law_kinds", "_law_flag"] ["_law_e"] (defScope s__law_term) := ⟨rfl, rfl, rfl, by decide +kernel, rfl, by decide +kernel, by decide +kernel⟩
def m__law_term (c : Nat) : MS := sseq (sasg (.nm 1) (mL mkLst (mcons (misE 0 (c == 1)) (mcons (misE 0 (c == 2)) (mcons (misE 0 (c == 3)) (mcons (misE 0 (c == 4)) (mnil)))))))
    (sseq (sasg (.nm 1) (m2 addD (mvar 1) (mL mkLst (mcons (misE 0 (c == 5)) (mcons (misE 0 (c == 6)) (mcons (misE 0 (c == 7)) (mnil)))))))
    (sseq (sasg (.nm 1) (m2 addD (mvar 1) (mL mkLst (mcons (misE 0 (c == 8)) (mcons (misE 0 (c == 9)) (mcons (misE 0 (c == 10)) (mcons (misE 0 (c == 11)) (mnil))))))))
    (sseq (sasg (.nm 2) (mL mkLst (mcons (mpure (.str "BadHouse")) (mcons (mpure (.str "BadName")) (mcons (mpure (.str "BadSeating")) (mcons (mpure (.str "BadDay")) (mcons (mpure (.str "BadHours")) (mcons (mpure (.str "BadTable")) (mcons (mpure (.str "BadWeights")) (mcons (mpure (.str "BadSeen")) (mnil)))))))))))
    (sseq (sasg (.nm 2) (m2 addD (mvar 2) (mL mkLst (mcons (mpure (.str "Nothing")) (mcons (mpure (.str "Full")) (mcons (mpure (.str "BadText")) (mnil)))))))
    (sseq (sif (mor (mtest (m2 neD (mL sumD (mcons (mfrz (mcomp (msrcL (mvar 1)) [3] (.nm 3) (mtrue) (mL intD (mcons (mvar 3) (mnil))))) (mnil))) (mpure (.int 1)))) (mnot (mtest (misE 0 true)))) (sret (mL mkTup (mcons (mpure (.str "refused")) (mcons (mpure (.str "other")) (mnil))))) (snext))
    (sret (mL mkTup (mcons (mpure (.str "refused")) (mcons (m2 ixD (mvar 2) (mMT "list" (fun d ds => match d with | .list _ => indexD d ds | _ => none) (mvar 1) (mcons (mpure (.bool true)) (mnil)))) (mnil))))))))))
def φ__law_term : Nat → Option PyData := phiT raised 3 m__law_term
theorem ok__law_term (B : Bl mg) (hKT : KT K) (D : DefF K mg "_law_term" "_law_term" s__law_term ["_law_e"]) (hVE : mg "ValueError" = none) (ec : ∀ c, raised.contains c = true → ExcC K (Y.ex c)) (kv : ∀ c, raised.contains c = true → PySem.W.kitOne K (.ref (Y.ex c)) (.type "ValueError") = some true) (c_BadHouse : mg "BadHouse" = some (.ref (Y.ex 1))) (kt_BadHouse : ∀ c, raised.contains c = true → PySem.W.kitOne K (.ref (Y.ex c)) (.ref (Y.ex 1)) = some (c == 1)) (c_BadName : mg "BadName" = some (.ref (Y.ex 2))) (kt_BadName : ∀ c, raised.contains c = true → PySem.W.kitOne K (.ref (Y.ex c)) (.ref (Y.ex 2)) = some (c == 2)) (c_BadSeating : mg "BadSeating" = some (.ref (Y.ex 3))) (kt_BadSeating : ∀ c, raised.contains c = true → PySem.W.kitOne K (.ref (Y.ex c)) (.ref (Y.ex 3)) = some (c == 3)) (c_BadDay : mg "BadDay" = some (.ref (Y.ex 4))) (kt_BadDay : ∀ c, raised.contains c = true → PySem.W.kitOne K (.ref (Y.ex c)) (.ref (Y.ex 4)) = some (c == 4)) (c_BadHours : mg "BadHours" = some (.ref (Y.ex 5))) (kt_BadHours : ∀ c, raised.contains c = true → PySem.W.kitOne K (.ref (Y.ex c)) (.ref (Y.ex 5)) = some (c == 5)) (c_BadTable : mg "BadTable" = some (.ref (Y.ex 6))) (kt_BadTable : ∀ c, raised.contains c = true → PySem.W.kitOne K (.ref (Y.ex c)) (.ref (Y.ex 6)) = some (c == 6)) (c_BadWeights : mg "BadWeights" = some (.ref (Y.ex 7))) (kt_BadWeights : ∀ c, raised.contains c = true → PySem.W.kitOne K (.ref (Y.ex c)) (.ref (Y.ex 7)) = some (c == 7)) (c_BadSeen : mg "BadSeen" = some (.ref (Y.ex 8))) (kt_BadSeen : ∀ c, raised.contains c = true → PySem.W.kitOne K (.ref (Y.ex c)) (.ref (Y.ex 8)) = some (c == 8)) (c_Nothing : mg "Nothing" = some (.ref (Y.ex 9))) (kt_Nothing : ∀ c, raised.contains c = true → PySem.W.kitOne K (.ref (Y.ex c)) (.ref (Y.ex 9)) = some (c == 9)) (c_Full : mg "Full" = some (.ref (Y.ex 10))) (kt_Full : ∀ c, raised.contains c = true → PySem.W.kitOne K (.ref (Y.ex c)) (.ref (Y.ex 10)) = some (c == 10)) (c_BadText : mg "BadText" = some (.ref (Y.ex 11))) (kt_BadText : ∀ c, raised.contains c = true → PySem.W.kitOne K (.ref (Y.ex c)) (.ref (Y.ex 11)) = some (c == 11)) : TOk P w K mg base Y 1 "_law_term" φ__law_term := by
  refine tok (N := ["_law_e", "_law_flags", "_law_kinds", "_law_flag"]) (rs := raised) (m := m__law_term) (k := 0) D sc__law_term fun f cdv A outer s H p c hc hz hf hot hr => ?_
  have hN := sc__law_term.nd
  exact (pb_cons (pd_set 1 hN (pd_lst (pl_cons (pd_isiE 0 (ec c hc) hz hf List.mem_cons_self (pe_glob (v := .ref (Y.ex 1)) rfl c_BadHouse rfl) (fun _ h => h) (kt_BadHouse c hc) ⟨rfl, by first | exact Or.inl rfl | exact Or.inr (Or.inl rfl) | exact Or.inr (Or.inr rfl), by decide, by decide⟩ B.isinstance) (pl_cons (pd_isiE 0 (ec c hc) hz hf List.mem_cons_self (pe_glob (v := .ref (Y.ex 2)) rfl c_BadName rfl) (fun _ h => h) (kt_BadName c hc) ⟨rfl, by first | exact Or.inl rfl | exact Or.inr (Or.inl rfl) | exact Or.inr (Or.inr rfl), by decide, by decide⟩ B.isinstance) (pl_cons (pd_isiE 0 (ec c hc) hz hf List.mem_cons_self (pe_glob (v := .ref (Y.ex 3)) rfl c_BadSeating rfl) (fun _ h => h) (kt_BadSeating c hc) ⟨rfl, by first | exact Or.inl rfl | exact Or.inr (Or.inl rfl) | exact Or.inr (Or.inr rfl), by decide, by decide⟩ B.isinstance) (pl_cons (pd_isiE 0 (ec c hc) hz hf List.mem_cons_self (pe_glob (v := .ref (Y.ex 4)) rfl c_BadDay rfl) (fun _ h => h) (kt_BadDay c hc) ⟨rfl, by first | exact Or.inl rfl | exact Or.inr (Or.inl rfl) | exact Or.inr (Or.inr rfl), by decide, by decide⟩ B.isinstance) pl_nil))))))
    (pb_cons (pd_set 1 hN (pd_opD opD_add rfl (pd_var 1) (pd_lst (pl_cons (pd_isiE 0 (ec c hc) hz hf List.mem_cons_self (pe_glob (v := .ref (Y.ex 5)) rfl c_BadHours rfl) (fun _ h => h) (kt_BadHours c hc) ⟨rfl, by first | exact Or.inl rfl | exact Or.inr (Or.inl rfl) | exact Or.inr (Or.inr rfl), by decide, by decide⟩ B.isinstance) (pl_cons (pd_isiE 0 (ec c hc) hz hf List.mem_cons_self (pe_glob (v := .ref (Y.ex 6)) rfl c_BadTable rfl) (fun _ h => h) (kt_BadTable c hc) ⟨rfl, by first | exact Or.inl rfl | exact Or.inr (Or.inl rfl) | exact Or.inr (Or.inr rfl), by decide, by decide⟩ B.isinstance) (pl_cons (pd_isiE 0 (ec c hc) hz hf List.mem_cons_self (pe_glob (v := .ref (Y.ex 7)) rfl c_BadWeights rfl) (fun _ h => h) (kt_BadWeights c hc) ⟨rfl, by first | exact Or.inl rfl | exact Or.inr (Or.inl rfl) | exact Or.inr (Or.inr rfl), by decide, by decide⟩ B.isinstance) pl_nil))))))
    (pb_cons (pd_set 1 hN (pd_opD opD_add rfl (pd_var 1) (pd_lst (pl_cons (pd_isiE 0 (ec c hc) hz hf List.mem_cons_self (pe_glob (v := .ref (Y.ex 8)) rfl c_BadSeen rfl) (fun _ h => h) (kt_BadSeen c hc) ⟨rfl, by first | exact Or.inl rfl | exact Or.inr (Or.inl rfl) | exact Or.inr (Or.inr rfl), by decide, by decide⟩ B.isinstance) (pl_cons (pd_isiE 0 (ec c hc) hz hf List.mem_cons_self (pe_glob (v := .ref (Y.ex 9)) rfl c_Nothing rfl) (fun _ h => h) (kt_Nothing c hc) ⟨rfl, by first | exact Or.inl rfl | exact Or.inr (Or.inl rfl) | exact Or.inr (Or.inr rfl), by decide, by decide⟩ B.isinstance) (pl_cons (pd_isiE 0 (ec c hc) hz hf List.mem_cons_self (pe_glob (v := .ref (Y.ex 10)) rfl c_Full rfl) (fun _ h => h) (kt_Full c hc) ⟨rfl, by first | exact Or.inl rfl | exact Or.inr (Or.inl rfl) | exact Or.inr (Or.inr rfl), by decide, by decide⟩ B.isinstance) (pl_cons (pd_isiE 0 (ec c hc) hz hf List.mem_cons_self (pe_glob (v := .ref (Y.ex 11)) rfl c_BadText rfl) (fun _ h => h) (kt_BadText c hc) ⟨rfl, by first | exact Or.inl rfl | exact Or.inr (Or.inl rfl) | exact Or.inr (Or.inr rfl), by decide, by decide⟩ B.isinstance) pl_nil)))))))
    (pb_cons (pd_set 2 hN (pd_lst (pl_cons pd_str (pl_cons pd_str (pl_cons pd_str (pl_cons pd_str (pl_cons pd_str (pl_cons pd_str (pl_cons pd_str (pl_cons pd_str pl_nil))))))))))
    (pb_cons (pd_set 2 hN (pd_opD opD_add rfl (pd_var 2) (pd_lst (pl_cons pd_str (pl_cons pd_str (pl_cons pd_str pl_nil))))))
    (pb_cons (pd_ifS (pb_w (pb_or (pb_cmpD (opD_ne (hu64H hr)) rfl (pd_bltD (callD_sumH hot) rfl B.sum (by rfl) (pl_cons (pd_of (po_lcH [("_law_flag", 3)] [3] hot hN rfl (pd_var 1) rfl (by decide) (blkOk_by (by kernel_rfl)) (fun _ _ _ _ _ => (pg_nm 3 hN)) (fun _ _ _ _ _ => pts_yes) (fun _ _ _ _ _ => (pd_tyD callD_int rfl B.int (by rfl) (pl_cons (pd_var 3) pl_nil))))) pl_nil)) pd_int) (pb_or1 (pb_not (pb_val (pd_isiE 0 (ec c hc) hz hf List.mem_cons_self (pe_bltn (v := .ty "ValueError") rfl hVE (by rfl) rfl) (fun _ h => h) (kv c hc) ⟨rfl, by first | exact Or.inl rfl | exact Or.inr (Or.inl rfl) | exact Or.inr (Or.inr rfl), by decide, by decide⟩ B.isinstance)))))) (pb_one (pd_ret (pd_tup (pl_cons pd_str (pl_cons pd_str pl_nil))))) pb_nil)
    (pb_one (pd_ret (pd_tup (pl_cons pd_str (pl_cons (pd_ixD rfl (pd_var 2) (pd_indexL hKT (hu65H hr) rfl (pd_var 1) (pl_cons pd_bool pl_nil))) pl_nil)))))))))))
abbrev s__law_told : Stmt := top 48
theorem sc__law_told : FnScope ["_law_deed", "_law_e"] ["_law_deed"] (defScope s__law_told) := ⟨rfl, rfl, rfl, by decide +kernel, rfl, by decide +kernel, by decide +kernel⟩
abbrev s__law_pairs : Stmt := top 49
theorem sc__law_pairs : FnScope ["_law_folk", "_law_found", "_law_at", "_law_one", "_law_other"] ["_law_folk"] (defScope s__law_pairs) := ⟨rfl, rfl, rfl, by decide +kernel, rfl, by decide +kernel, by decide +kernel⟩
def m__law_pairs : MS := sseq (sasg (.nm 1) (mL mkLst (mnil)))
    (sseq (sfor (menum (mvar 0)) (.tp [.nm 2, .nm 3]) (sasg (.nm 1) (m2 addD (mvar 1) (mfrz (mcomp (msrc (msl (mvar 0) (mprt (m2 addD (mvar 2) (mpure (.int 1)))) (mnoP))) [4] (.nm 4) (mtrue) (mL mkTup (mcons (mvar 3) (mcons (mvar 4) (mnil)))))))))
    (sret (mvar 1)))
def φ__law_pairs : Phi := fnPhi 4 m__law_pairs
theorem ok__law_pairs (B : Bl mg) (hKT : KT K) (D : DefF K mg "_law_pairs" "_law_pairs" s__law_pairs ["_law_folk"])  : DOk P w K mg base Y 1 "_law_pairs" 1 φ__law_pairs := by
  refine dok (k := 0) D sc__law_pairs fun f cdv A outer s H vs E hr hl => ?_
  have hN := sc__law_pairs.nd
  exact (pb_cons (pd_set 1 hN (pd_lst pl_nil))
    (pb_cons (pd_for PassesOwn.leaving rfl (pi_enumD rfl (pd_var 0) B.enumerate) (pg_tp rfl rfl (pgs_cn (pg_nm 2 hN) (pgs_cn (pg_nm 3 hN) pgs_nl))) (pb_one (pd_set 1 hN (pd_opD opD_add rfl (pd_var 1) (pd_of (po_lc [("_law_other", 4)] [4] rfl hN (pi_src rfl (pd_sl rfl (pd_var 0) (pt_e (pd_opD opD_add rfl (pd_var 2) pd_int)) pt_no)) rfl (by decide) (blkOk_by (by kernel_rfl)) (fun _ _ _ _ _ => (pg_nm 4 hN)) (fun _ _ _ _ _ => pts_yes) (fun _ _ _ _ _ => (pd_tup (pl_cons (pd_var 3) (pl_cons (pd_var 4) pl_nil))))))))))
    (pb_one (pd_ret (pd_var 1)))))
abbrev s__law_any_house : Stmt := top 50
theorem sc__law_any_house : FnScope ["_law_dice", "_law_folk", "_law_size", "_law_some", "_law_rooms", "_law_seats", "_law_apart", "_law_turn"] ["_law_dice"] (defScope s__law_any_house) := ⟨rfl, rfl, rfl, by decide +kernel, rfl, by decide +kernel, by decide +kernel⟩
def m__law_any_house : MS := sseq (sasg (.nm 1) (msl (mL mkTup (mcons (mpure (.str "ann")) (mcons (mpure (.str "bob")) (mcons (mpure (.str "cy")) (mcons (mpure (.str "dee")) (mnil)))))) (mnoP) (mprt (m2 addD (mpure (.int 3)) (mcallO 2 φ__law_roll 0 (mcons (mpure (.int 2)) (mnil)))))))
    (sseq (sasg (.tp [.nm 2, .nm 3]) (mL mkTup (mcons (mL lenD (mcons (mvar 1) (mnil))) (mcons (mcall 1 φ__law_pairs (mcons (mvar 1) (mnil))) (mnil)))))
    (sseq (spar [4, 5] (cval (m2 addD (mpure (.int 1)) (mcallO 2 φ__law_roll 0 (mcons (mvar 2) (mnil)))) (cval (m2 addD (mpure (.int 1)) (mcallO 2 φ__law_roll 0 (mcons (mvar 2) (mnil)))) (cnil))))
    (sseq (sif (mtest (m2 eqD (mcallO 2 φ__law_roll 0 (mcons (mpure (.int 2)) (mnil))) (mpure (.int 0)))) (spar [4, 5] (cval (mvar 2) (cval (mvar 2) (cnil)))) (snext))
    (sseq (sasg (.nm 6) (mfrz (mcomp (mrange1 (m2 idivD (mcallO 2 φ__law_roll 0 (mcons (mpure (.int 3)) (mnil))) (mpure (.int 2)))) [7] (.nm 7) (mtrue) (m2 ixD (mvar 3) (mcallO 2 φ__law_roll 0 (mcons (mL lenD (mcons (mvar 3) (mnil))) (mnil)))))))
    (sret (mL mkTup (mcons (mvar 1) (mcons (mvar 4) (mcons (mvar 5) (mcons (mL tupleD (mcons (mvar 6) (mnil))) (mnil)))))))))))
def φ__law_any_house : Phi := fnPhi 7 m__law_any_house
theorem ok__law_any_house (B : Bl mg) (hKT : KT K) (D : DefF K mg "_law_any_house" "_law_any_house" s__law_any_house ["_law_dice"]) (h__law_roll : DOk P w K mg base Y 2 "_law_roll" 2 φ__law_roll) (h__law_pairs : DOk P w K mg base Y 1 "_law_pairs" 1 φ__law_pairs) : DOk P w K mg base Y 3 "_law_any_house" 1 φ__law_any_house := by
  refine dok (k := 2) D sc__law_any_house fun f cdv A outer s H vs E hr hl => ?_
  have hN := sc__law_any_house.nd
  exact (pb_cons (pd_set 1 hN (pd_sl rfl (pd_tup (pl_cons pd_str (pl_cons pd_str (pl_cons pd_str (pl_cons pd_str pl_nil))))) pt_no (pt_e (pd_opD opD_add rfl pd_int (pd_callO' (i := 0) h__law_roll rfl hr (by omega) (L2N.takes_of rfl rfl rfl rfl) (pl_cons pd_int pl_nil))))))
    (pb_cons (pd_asg (pd_tup (pl_cons (pd_bltD (callD_len) rfl B.len (by rfl) (pl_cons (pd_var 1) pl_nil)) (pl_cons (pd_def h__law_pairs rfl hr (by omega) (L2N.takes_of rfl rfl rfl rfl) (pl_cons (pd_var 1) pl_nil)) pl_nil))) (pg_tp rfl rfl (pgs_cn (pg_nm 2 hN) (pgs_cn (pg_nm 3 hN) pgs_nl))))
    (pb_cons (pd_par2 4 5 rfl hN (px_v (pd_opD opD_add rfl pd_int (pd_callO' (i := 0) h__law_roll rfl hr (by omega) (L2N.takes_of rfl rfl rfl rfl) (pl_cons (pd_var 2) pl_nil))) (px_v (pd_opD opD_add rfl pd_int (pd_callO' (i := 0) h__law_roll rfl hr (by omega) (L2N.takes_of rfl rfl rfl rfl) (pl_cons (pd_var 2) pl_nil))) px_nil)) (by rfl) (hl0 hl) (hl0 hl))
    (pb_cons (pd_ifS (pb_cmpD (opD_eq (hu64 hr)) rfl (pd_callO' (i := 0) h__law_roll rfl hr (by omega) (L2N.takes_of rfl rfl rfl rfl) (pl_cons pd_int pl_nil)) pd_int) (pb_one (pd_par2 4 5 rfl hN (px_v (pd_var 2) (px_v (pd_var 2) px_nil)) (by rfl) (hl0 hl) (hl0 hl))) pb_nil)
    (pb_cons (pd_setLc 6 [("_law_turn", 7)] [7] rfl hN (pi_rng1 (pd_opD opD_div rfl (pd_callO' (i := 0) h__law_roll rfl hr (by omega) (L2N.takes_of rfl rfl rfl rfl) (pl_cons pd_int pl_nil)) pd_int) B.range) rfl (by decide) (blkOk_by (by kernel_rfl)) (fun _ _ _ _ _ => (pg_nm 7 hN)) (fun _ _ _ _ _ => pts_yes) (fun _ _ _ _ _ => (pd_ixD rfl (pd_var 3) (pd_callO' (i := 0) h__law_roll rfl hr (by omega) takesN0 (pl_cons (pd_bltD (callD_len) rfl B.len (by rfl) (pl_cons (pd_var 3) pl_nil)) pl_nil)))))
    (pb_one (pd_ret (pd_tup (pl_cons (pd_var 1) (pl_cons (pd_var 4) (pl_cons (pd_var 5) (pl_cons (pd_tyD callD_tuple rfl B.tuple (by rfl) (pl_cons (pd_var 6) pl_nil)) pl_nil))))))))))))
abbrev s__law_all_seatings : Stmt := top 51
theorem sc__law_all_seatings : FnScope ["_law_house", "_law_folk", "_law_rooms", "_law_size", "_law_apart", "_law_found", "_law_rows", "_law_one", "_law_longer", "_law_row", "_law_room", "_law_groups", "_law_at", "_law_mixed", "_law_pair", "_law_group"] ["_law_house"] (defScope s__law_all_seatings) := ⟨rfl, rfl, rfl, by decide +kernel, rfl, by decide +kernel, by decide +kernel⟩
def m__law_all_seatings : MS := sseq (sasg (.tp [.nm 1, .nm 2, .nm 3, .nm 4]) (mvar 0))
    (sseq (spar [5, 6] (cown (mLst (mnil)) (cval (mL mkLst (mcons (mL mkLst (mnil)) (mnil))) (cnil))))
    (sseq (sfor (msrc (mvar 1)) (.nm 7) (sseq (sasg (.nm 8) (mL mkLst (mnil)))
    (sseq (sfor (msrc (mvar 6)) (.nm 9) (sasg (.nm 8) (m2 addD (mvar 8) (mfrz (mcomp (mrange1 (m2 addD (mL maxD' (mcons (m2 addD (mvar 9) (mL mkLst (mcons (m1 negD (mpure (.int 1))) (mnil)))) (mnil))) (mpure (.int 2)))) [10] (.nm 10) (mtrue) (m2 addD (mvar 9) (mL mkLst (mcons (mvar 10) (mnil)))))))))
    (sasg (.nm 6) (mvar 8)))))
    (sseq (sfor (msrc (mvar 6)) (.nm 9) (sseq (ssetO 11 (mLst (mnil)))
    (sseq (sfor (mrange1 (m2 addD (mL maxD' (mcons (mvar 9) (mnil))) (mpure (.int 1)))) (.nm 10) (sexpr (mappend 11 (mL tupleD (mcons (mfrz (mcomp (menum (mvar 1)) [7, 12] (.tp [.nm 12, .nm 7]) (mtest (m2 eqD (m2 ixD (mvar 9) (mvar 12)) (mvar 10))) (mvar 7))) (mnil))))))
    (sseq (sasg (.nm 13) (mfrz (mcomp (msrc (mvar 4)) [14] (.nm 14) (mtest (m2 eqD (m2 ixD (mvar 9) (mMT "tuple" (fun d ds => match d with | .tuple _ => indexD d ds | _ => none) (mvar 1) (mcons (m2 ixD (mvar 14) (mpure (.int 0))) (mnil)))) (m2 ixD (mvar 9) (mMT "tuple" (fun d ds => match d with | .tuple _ => indexD d ds | _ => none) (mvar 1) (mcons (m2 ixD (mvar 14) (mpure (.int 1))) (mnil)))))) (mvar 14))))
    (sif (mand (mtest (m2 leD (mlenO 11) (mvar 2))) (mand (mtest (m2 leD (mL maxD' (mcons (mfrz (mcomp (msrc (mvar 11)) [15] (.nm 15) (mtrue) (mL lenD (mcons (mvar 15) (mnil))))) (mnil))) (mvar 3))) (mtest (m2 eqD (mvar 13) (mL mkLst (mnil)))))) (sexpr (mappend 5 (mL tupleD (mcons (mL sortedD2 (mcons (mvar 11) (mnil))) (mnil))))) (snext))))))
    (sret (mL sortedD2 (mcons (mvar 5) (mnil)))))))
def φ__law_all_seatings : Phi := fnPhi 15 m__law_all_seatings
theorem ok__law_all_seatings (B : Bl mg) (hKT : KT K) (D : DefF K mg "_law_all_seatings" "_law_all_seatings" s__law_all_seatings ["_law_house"])  : DOk P w K mg base Y 1 "_law_all_seatings" 1 φ__law_all_seatings := by
  refine dok (k := 0) D sc__law_all_seatings fun f cdv A outer s H vs E hr hl => ?_
  have hN := sc__law_all_seatings.nd
  exact (pb_cons (pd_asg (pd_var 0) (pg_tp rfl rfl (pgs_cn (pg_nm 1 hN) (pgs_cn (pg_nm 2 hN) (pgs_cn (pg_nm 3 hN) (pgs_cn (pg_nm 4 hN) pgs_nl))))))
    (pb_cons (pd_par2 5 6 rfl hN (px_o (po_lst pl_nil) (px_v (pd_lst (pl_cons (pd_lst pl_nil) pl_nil)) px_nil)) (by rfl) (hl0 hl) (hl0 hl))
    (pb_cons (pd_for PassesOwn.leaving rfl (pi_src rfl (pd_var 1)) (pg_nm 7 hN) (pb_cons (pd_set 8 hN (pd_lst pl_nil))
    (pb_cons (pd_for PassesOwn.leaving rfl (pi_src rfl (pd_var 6)) (pg_nm 9 hN) (pb_one (pd_set 8 hN (pd_opD opD_add rfl (pd_var 8) (pd_of (po_lc [("_law_room", 10)] [10] rfl hN (pi_rng1 (pd_opD opD_add rfl (pd_bltD (cr_maxD' rfl (hu65 hr)) rfl B.max (by rfl) (pl_cons (pd_opD opD_add rfl (pd_var 9) (pd_lst (pl_cons (pd_unD unD_neg rfl pd_int) pl_nil))) pl_nil)) pd_int) B.range) rfl (by decide) (blkOk_by (by kernel_rfl)) (fun _ _ _ _ _ => (pg_nm 10 hN)) (fun _ _ _ _ _ => pts_yes) (fun _ _ _ _ _ => (pd_opD opD_add rfl (pd_var 9) (pd_lst (pl_cons (pd_var 10) pl_nil))))))))))
    (pb_one (pd_set 6 hN (pd_var 8))))))
    (pb_cons (pd_for PassesOwn.leaving rfl (pi_src rfl (pd_var 6)) (pg_nm 9 hN) (pb_cons (pd_setO 11 hN (po_lst pl_nil) (hl0 hl))
    (pb_cons (pd_for PassesOwn.leaving rfl (pi_rng1 (pd_opD opD_add rfl (pd_bltD (cr_maxD' rfl (hu65 hr)) rfl B.max (by rfl) (pl_cons (pd_var 9) pl_nil)) pd_int) B.range) (pg_nm 10 hN) (pb_one (pd_expr (pd_append 11 ⟨rfl, by first | exact Or.inl rfl | exact Or.inr (Or.inl rfl) | exact Or.inr (Or.inr rfl), by decide, by decide⟩ (pd_tyD callD_tuple rfl B.tuple (by rfl) (pl_cons (pd_of (po_lc [("_law_one", 7), ("_law_at", 12)] [7, 12] rfl hN (pi_enumD rfl (pd_var 1) B.enumerate) rfl (by decide) (blkOk_by (by kernel_rfl)) (fun _ _ _ _ _ => (pg_tp rfl rfl (pgs_cn (pg_nm 12 hN) (pgs_cn (pg_nm 7 hN) pgs_nl)))) (fun _ _ _ _ _ => (pts_if (pb_cmpD (opD_eq (hu64 hr)) rfl (pd_ixD rfl (pd_var 9) (pd_var 12)) (pd_var 10)))) (fun _ _ _ _ _ => (pd_var 7)))) pl_nil))))))
    (pb_cons (pd_setLc 13 [("_law_pair", 14)] [14] rfl hN (pi_src rfl (pd_var 4)) rfl (by decide) (blkOk_by (by kernel_rfl)) (fun _ _ _ _ _ => (pg_nm 14 hN)) (fun _ _ _ _ _ => (pts_if (pb_cmpD (opD_eq (hu64 hr)) rfl (pd_ixD rfl (pd_var 9) (pd_index hKT (hu65 hr) rfl (pd_var 1) (pl_cons (pd_ixD rfl (pd_var 14) pd_int) pl_nil))) (pd_ixD rfl (pd_var 9) (pd_index hKT (hu65 hr) rfl (pd_var 1) (pl_cons (pd_ixD rfl (pd_var 14) pd_int) pl_nil)))))) (fun _ _ _ _ _ => (pd_var 14)))
    (pb_one (pd_ifS (pb_w (pb_and (pb_cmpD (opD_le (hu64 hr)) rfl (pd_lenO 11 ⟨rfl, by first | exact Or.inl rfl | exact Or.inr (Or.inl rfl) | exact Or.inr (Or.inr rfl), by decide, by decide⟩ B.len) (pd_var 2)) (pb_and (pb_cmpD (opD_le (hu64 hr)) rfl (pd_bltD (cr_maxD' rfl (hu65 hr)) rfl B.max (by rfl) (pl_cons (pd_of (po_lc [("_law_group", 15)] [15] rfl hN (pi_src rfl (pd_var 11)) rfl (by decide) (blkOk_by (by kernel_rfl)) (fun _ _ _ _ _ => (pg_nm 15 hN)) (fun _ _ _ _ _ => pts_yes) (fun _ _ _ _ _ => (pd_bltD (callD_len) rfl B.len (by rfl) (pl_cons (pd_var 15) pl_nil))))) pl_nil)) (pd_var 3)) (pb_and1 (pb_cmpD (opD_eq (hu64 hr)) rfl (pd_var 13) (pd_lst pl_nil)))))) (pb_one (pd_expr (pd_append 5 ⟨rfl, by first | exact Or.inl rfl | exact Or.inr (Or.inl rfl) | exact Or.inr (Or.inr rfl), by decide, by decide⟩ (pd_tyD callD_tuple rfl B.tuple (by rfl) (pl_cons (pd_bltD (callD_sorted2 (hu67 hr)) rfl B.sorted (by rfl) (pl_cons (pd_var 11) pl_nil)) pl_nil))))) pb_nil))))))
    (pb_one (pd_ret (pd_bltD (callD_sorted2 (hu67 hr)) rfl B.sorted (by rfl) (pl_cons (pd_var 5) pl_nil))))))))
abbrev s__law_sit : Stmt := top 52
theorem sc__law_sit : FnScope ["_law_seating", "_law_some", "_law_group", "_law_one"] ["_law_seating", "_law_some"] (defScope s__law_sit) := ⟨rfl, rfl, rfl, by decide +kernel, rfl, by decide +kernel, by decide +kernel⟩
def m__law_sit : MS := sret (m2 neD (mfrz (mcomp (msrc (mvar 0)) [2] (.nm 2) (mtest (m2 eqD (mfrz (mcomp (msrc (mvar 1)) [3] (.nm 3) (mtest (m2 notInD (mvar 3) (mvar 2))) (mvar 3))) (mL mkLst (mnil)))) (mvar 2))) (mL mkLst (mnil)))
def φ__law_sit : Phi := fnPhi 2 m__law_sit
theorem ok__law_sit (B : Bl mg) (hKT : KT K) (D : DefF K mg "_law_sit" "_law_sit" s__law_sit ["_law_seating", "_law_some"])  : DOk P w K mg base Y 1 "_law_sit" 2 φ__law_sit := by
  refine dok (k := 0) D sc__law_sit fun f cdv A outer s H vs E hr hl => ?_
  have hN := sc__law_sit.nd
  exact (pb_one (pd_ret (pd_cmpD (opD_ne (hu64 hr)) rfl (pd_of (po_lc [("_law_group", 2)] [2] rfl hN (pi_src rfl (pd_var 0)) rfl (by decide) (blkOk_by (by kernel_rfl)) (fun _ _ _ _ _ => (pg_nm 2 hN)) (fun _ _ _ _ _ => (pts_if (pb_cmpD (opD_eq (hu64 hr)) rfl (pd_of (po_lc [("_law_one", 3)] [3] rfl hN (pi_src rfl (pd_var 1)) rfl (by decide) (blkOk_by (by kernel_rfl)) (fun _ _ _ _ _ => (pg_nm 3 hN)) (fun _ _ _ _ _ => (pts_if (pb_cmpD (opD_notIn (hu65 hr)) rfl (pd_var 3) (pd_var 2)))) (fun _ _ _ _ _ => (pd_var 3)))) (pd_lst pl_nil)))) (fun _ _ _ _ _ => (pd_var 2)))) (pd_lst pl_nil))))
abbrev s_law : Stmt := top 53
theorem sc_law : FnScope ["_law_script", "_law_dice", "_law_house", "_law_folk", "_law_every", "_law_turn", "_law_free", "_law_seating", "_law_one", "_law_other", "_law_some", "_law_thing", "_law_cases", "_law_bad", "_law_made"] ["_law_script"] (defScope s_law) := ⟨rfl, rfl, rfl, by decide +kernel, rfl, by decide +kernel, by decide +kernel⟩
def m_law : MS := sseq (sforR 1 (mcallR 2 φ__law_rounds (mcons (mvar 0) (mcons (mpure (.int 5)) (mnil)))) (sseq (sasg (.nm 2) (mcallO 1 φ__law_any_house 1 (mnil)))
    (sseq (spar [3, 4] (cval (m2 ixD (mvar 2) (mpure (.int 0))) (cval (mcall 1 φ__law_all_seatings (mcons (mvar 2) (mnil))) (cnil))))
    (sseq (sif (mtest (m2 neD (mcall 1 φ_seatings (mcons (mvar 2) (mnil))) (mvar 4))) (sret (mpure (.bool false))) (snext))
    (sseq (sif (mtest (m2 neD (mL lenD (mcons (mcall 1 φ_seatings (mcons (mL mkTup (mcons (mvar 3) (mcons (mL lenD (mcons (mvar 3) (mnil))) (mcons (mL lenD (mcons (mvar 3) (mnil))) (mcons (mL mkTup (mnil)) (mnil)))))) (mnil))) (mnil))) (m2 ixD (mL mkLst (mcons (mpure (.int 5)) (mcons (mpure (.int 15)) (mnil)))) (m2 isubD (mL lenD (mcons (mvar 3) (mnil))) (mpure (.int 3)))))) (sret (mpure (.bool false))) (snext))
    (sseq (sfor (mrange1 (mpure (.int 6))) (.nm 5) (sseq (sasg (.nm 6) (mcall 1 φ__law_all_seatings (mcons (mL mkTup (mcons (mvar 3) (mcons (mL lenD (mcons (mvar 3) (mnil))) (mcons (mL lenD (mcons (mvar 3) (mnil))) (mcons (mL mkTup (mnil)) (mnil)))))) (mnil))))
    (sseq (sasg (.nm 7) (m2 ixD (mvar 6) (mcallO 2 φ__law_roll 1 (mcons (mL lenD (mcons (mvar 6) (mnil))) (mnil)))))
    (sseq (sif (mtest (m2 neD (mcall 2 φ_is_seating (mcons (mvar 2) (mcons (mvar 7) (mnil)))) (m2 inD (mvar 7) (mvar 4)))) (sret (mpure (.bool false))) (snext))
    (sseq (sif (mtest (m2 inD (mvar 7) (mvar 4))) (sfor (msrc (mvar 3)) (.nm 8) (sfor (msrc (mvar 3)) (.nm 9) (sif (mtest (m2 neD (mcall 4 φ_together (mcons (mvar 2) (mcons (mvar 7) (mcons (mvar 8) (mcons (mvar 9) (mnil)))))) (mcall 2 φ__law_sit (mcons (mvar 7) (mcons (mL mkLst (mcons (mvar 8) (mcons (mvar 9) (mnil)))) (mnil)))))) (sret (mpure (.bool false))) (snext)))) (snext))
    (sseq (sasg (.nm 10) (mL mkLst (mcons (msl (mvar 7) (mprt (mpure (.int 1))) (mnoP)) (mcons (m2 addD (mvar 7) (msl (mvar 7) (mnoP) (mprt (mpure (.int 1))))) (mcons (m1 revD (mvar 7)) (mcons (mL listD (mcons (mvar 7) (mnil))) (mnil)))))))
    (sseq (sasg (.nm 10) (m2 addD (mvar 10) (mL mkLst (mcons (m2 addD (msl (mvar 7) (mnoP) (mprt (m1 negD (mpure (.int 1))))) (mL mkTup (mcons (mL mkTup (mnil)) (mnil)))) (mcons (m2 addD (msl (mvar 7) (mnoP) (mprt (m1 negD (mpure (.int 1))))) (mL mkTup (mcons (mL listD (mcons (m2 ixD (mvar 7) (m1 negD (mpure (.int 1)))) (mnil))) (mnil)))) (mnil))))))
    (sseq (sasg (.nm 11) (m2 ixD (mvar 10) (mcallO 2 φ__law_roll 1 (mcons (mpure (.int 6)) (mnil)))))
    (sif (mtest (m2 neD (mcall 2 φ_is_seating (mcons (mvar 2) (mcons (mvar 11) (mnil)))) (m2 inD (mvar 11) (mvar 4)))) (sret (mpure (.bool false))) (snext))))))))))
    (sseq (sasg (.nm 12) (mL mkLst (mcons (mpure .none) (mcons (mpure (.int 5)) (mcons (mL mkTup (mnil)) (mcons (mL mkTup (mcons (mpure (.str "ann")) (mnil))) (mcons (mL mkTup (mcons (mL mkTup (mcons (mpure (.str "ann")) (mcons (mpure (.str "bob")) (mnil)))) (mnil))) (mcons (mL mkTup (mcons (mL mkTup (mcons (mpure (.int 1)) (mcons (mpure (.int 2)) (mnil)))) (mnil))) (mnil)))))))))
    (sseq (sasg (.nm 12) (m2 addD (mvar 12) (mL mkLst (mcons (mL mkTup (mcons (mL mkTup (mcons (mpure (.str "ann")) (mnil))) (mcons (mL mkTup (mcons (mpure (.str "bob")) (mnil))) (mcons (mL mkTup (mcons (mpure (.str "cy")) (mnil))) (mcons (mL mkTup (mcons (mpure (.str "zed")) (mnil))) (mnil)))))) (mcons (mpure (.str "ann")) (mnil))))))
    (sseq (sfor (msrc (mvar 12)) (.nm 13) (sseq (ssetO 14 (mLst (mcons (mtold φ__law_term (mcall 4 φ_together (mcons (mvar 2) (mcons (mvar 13) (mcons (mpure .none) (mcons (mpure .none) (mnil))))))) (mnil))))
    (sseq (sexpr (mappend 14 (mtold φ__law_term (mcall 2 φ_seating_text (mcons (mvar 2) (mcons (mvar 13) (mnil)))))))
    (sseq (sexpr (mappend 14 (mtold φ__law_term (mmethN 0 2 "sit" φ_Book_sit (mnew 0 2 φ_Book___init__ (mcons (mvar 2) (mnil))) (mcons (mvar 13) (mnil))))))
    (sif (mor (mtest (m2 isNotD (mcall 2 φ_is_seating (mcons (mvar 2) (mcons (mvar 13) (mnil)))) (mpure (.bool false)))) (mtest (mcmpO neD 14 (m2 mulD (mL mkLst (mcons (mL mkTup (mcons (mpure (.str "refused")) (mcons (mpure (.str "BadSeating")) (mnil)))) (mnil))) (mpure (.int 3)))))) (sret (mpure (.bool false))) (snext))))))
    (sfor (msrc (msl (mvar 4) (mnoP) (mprt (mpure (.int 2))))) (.nm 7) (sfor (msrc (mL mkLst (mcons (mpure .none) (mcons (mpure (.int 5)) (mcons (mpure (.str "zed")) (mcons (mL mkTup (mcons (mpure (.str "ann")) (mnil))) (mnil))))))) (.nm 13) (sseq (ssetO 14 (mLst (mcons (mtold φ__law_term (mcall 4 φ_together (mcons (mvar 2) (mcons (mvar 7) (mcons (mvar 13) (mcons (mpure .none) (mnil))))))) (mnil))))
    (sseq (sexpr (mappend 14 (mtold φ__law_term (mcall 4 φ_together (mcons (mvar 2) (mcons (mvar 7) (mcons (mpure (.str "ann")) (mcons (mvar 13) (mnil)))))))))
    (sif (mtest (mcmpO neD 14 (m2 mulD (mL mkLst (mcons (mL mkTup (mcons (mpure (.str "refused")) (mcons (mpure (.str "BadName")) (mnil)))) (mnil))) (mpure (.int 2))))) (sret (mpure (.bool false))) (snext)))))))))))))))
    (sret (mpure (.bool true)))
def φ_law : Phi := fnPhi 14 m_law
theorem ok_law {cc Pt fL : Addr} {oc : Value} {od : Option Addr} {kV doc pm : Value} {an : Option Addr} {ct : Value} {osl : Array (Option Value)} (B : Bl mg) (hKT : KT K) (lk : K.lookup fL = some ⟨oc, od, .func (PySem.W.fnOf "law" "law" (defArgs s_law) (defBody s_law) (defScope s_law) .none kV doc pm an (.ref cc) ct), osl⟩) (hcd : PySem.W.codeIn K (.ref cc) "law" = true) (h__law_rounds : ROk P w K mg base Y 2 "_law_rounds" 2 φ__law_rounds) (I_Book : IOk P w K mg base Y 4 0 "Book" 2 φ_Book___init__) (M_Book_sit : MOk P w K mg base Y 13 0 "sit" 2 φ_Book_sit) (h__law_any_house : DOk P w K mg base Y 3 "_law_any_house" 1 φ__law_any_house) (h__law_all_seatings : DOk P w K mg base Y 1 "_law_all_seatings" 1 φ__law_all_seatings) (h_seatings : DOk P w K mg base Y 11 "seatings" 1 φ_seatings) (h__law_roll : DOk P w K mg base Y 2 "_law_roll" 2 φ__law_roll) (h_is_seating : DOk P w K mg base Y 12 "is_seating" 2 φ_is_seating) (h_together : DOk P w K mg base Y 13 "together" 4 φ_together) (h__law_sit : DOk P w K mg base Y 1 "_law_sit" 2 φ__law_sit) (h_seating_text : DOk P w K mg base Y 13 "seating_text" 2 φ_seating_text) (FD : DefF K mg "_law_told" "_law_told" s__law_told ["_law_deed"]) (T : TOk P w K mg base Y 1 "_law_term" φ__law_term) {CS : Addr} (hRE : mg "RoomError" = some (.ref CS)) (hxr : ∀ c, raised.contains c = true → PySem.W.exmOne K (.ref (Y.ex c)) (.ref CS) = some true) (TB : LamX.TabB base mg cc Pt) (hYT : Y.T = [(Pt, ("law.<locals>.<lambda>" : Str))]) : FnOk P w K mg base (L2N.CX P w) 16 fL (PySem.W.fnOf "law" "law" (defArgs s_law) (defBody s_law) (defScope s_law) .none kV doc pm an (.ref cc) ct) ["_law_script"] (spD Y K 1 φ_law) := by
  obtain ⟨fT, fdT, psT, FT, hmT, hkT, hbT, hpT⟩ := T.ex
  have hxm : ∀ k r, φ__law_term k = some r → PySem.W.exmOne K (.ref (Y.ex k)) (.ref CS) = some true := fun k r h => hxr k (phiT_some h).1
  refine dokL (N := ["_law_script", "_law_dice", "_law_house", "_law_folk", "_law_every", "_law_turn", "_law_free", "_law_seating", "_law_one", "_law_other", "_law_some", "_law_thing", "_law_cases", "_law_bad", "_law_made"]) (ps := ["_law_script"]) (m := m_law) (k := 15) lk hcd sc_law fun f A outer s H vs E hr hl => ?_
  have hmq : (Pt, (PyProof.Rows.envOfC "law" (defScope s_law) s.heap.objs.size f (.ref cc)).qual ++ "<lambda>") ∈ Y.T := by rw [hYT]; exact List.mem_singleton.mpr rfl
  have huq : ∀ p ∈ Y.T, p.1 = Pt → p.2 = (PyProof.Rows.envOfC "law" (defScope s_law) s.heap.objs.size f (.ref cc)).qual ++ "<lambda>" := fun p hp _ => by rw [hYT] at hp; rw [List.mem_singleton.mp hp]; rfl
  have hN := sc_law.nd
  exact (pb_cons (pd_forR 1 PassesOwn.leaving rfl hN rfl (hl0 hl) (pe_callR h__law_rounds rfl hr (by omega) (L2N.takes_of rfl rfl rfl rfl) (pl_cons (pd_var 0) (pl_cons pd_int pl_nil))) (pb_cons (pd_set 2 hN (pd_callO' (i := 1) h__law_any_house rfl hr (by omega) (L2N.takes_of rfl rfl rfl rfl) pl_nil))
    (pb_cons (pd_par2 3 4 rfl hN (px_v (pd_ixD rfl (pd_var 2) pd_int) (px_v (pd_def h__law_all_seatings rfl hr (by omega) (L2N.takes_of rfl rfl rfl rfl) (pl_cons (pd_var 2) pl_nil)) px_nil)) (by rfl) (hl0 hl) (hl0 hl))
    (pb_cons (pd_ifS (pb_cmpD (opD_ne (hu64 hr)) rfl (pd_def h_seatings rfl hr (by omega) (L2N.takes_of rfl rfl rfl rfl) (pl_cons (pd_var 2) pl_nil)) (pd_var 4)) (pb_one (pd_ret pd_bool)) pb_nil)
    (pb_cons (pd_ifS (pb_cmpD (opD_ne (hu64 hr)) rfl (pd_bltD (callD_len) rfl B.len (by rfl) (pl_cons (pd_def h_seatings rfl hr (by omega) (L2N.takes_of rfl rfl rfl rfl) (pl_cons (pd_tup (pl_cons (pd_var 3) (pl_cons (pd_bltD (callD_len) rfl B.len (by rfl) (pl_cons (pd_var 3) pl_nil)) (pl_cons (pd_bltD (callD_len) rfl B.len (by rfl) (pl_cons (pd_var 3) pl_nil)) (pl_cons (pd_tup pl_nil) pl_nil))))) pl_nil)) pl_nil)) (pd_ixD rfl (pd_lst (pl_cons pd_int (pl_cons pd_int pl_nil))) (pd_opD opD_sub rfl (pd_bltD (callD_len) rfl B.len (by rfl) (pl_cons (pd_var 3) pl_nil)) pd_int))) (pb_one (pd_ret pd_bool)) pb_nil)
    (pb_cons (pd_for PassesOwn.leaving rfl (pi_rng1 pd_int B.range) (pg_nm 5 hN) (pb_cons (pd_set 6 hN (pd_def h__law_all_seatings rfl hr (by omega) (L2N.takes_of rfl rfl rfl rfl) (pl_cons (pd_tup (pl_cons (pd_var 3) (pl_cons (pd_bltD (callD_len) rfl B.len (by rfl) (pl_cons (pd_var 3) pl_nil)) (pl_cons (pd_bltD (callD_len) rfl B.len (by rfl) (pl_cons (pd_var 3) pl_nil)) (pl_cons (pd_tup pl_nil) pl_nil))))) pl_nil)))
    (pb_cons (pd_set 7 hN (pd_ixD rfl (pd_var 6) (pd_callO' (i := 1) h__law_roll rfl hr (by omega) (L2N.takes_of rfl rfl rfl rfl) (pl_cons (pd_bltD (callD_len) rfl B.len (by rfl) (pl_cons (pd_var 6) pl_nil)) pl_nil))))
    (pb_cons (pd_ifS (pb_cmpD (opD_ne (hu64 hr)) rfl (pd_def h_is_seating rfl hr (by omega) (L2N.takes_of rfl rfl rfl rfl) (pl_cons (pd_var 2) (pl_cons (pd_var 7) pl_nil))) (pd_cmpD (opD_in (hu65 hr)) rfl (pd_var 7) (pd_var 4))) (pb_one (pd_ret pd_bool)) pb_nil)
    (pb_cons (pd_ifS (pb_cmpD (opD_in (hu65 hr)) rfl (pd_var 7) (pd_var 4)) (pb_one (pd_for PassesOwn.leaving rfl (pi_src rfl (pd_var 3)) (pg_nm 8 hN) (pb_one (pd_for PassesOwn.leaving rfl (pi_src rfl (pd_var 3)) (pg_nm 9 hN) (pb_one (pd_ifS (pb_cmpD (opD_ne (hu64 hr)) rfl (pd_def h_together rfl hr (by omega) (L2N.takes_of rfl rfl rfl rfl) (pl_cons (pd_var 2) (pl_cons (pd_var 7) (pl_cons (pd_var 8) (pl_cons (pd_var 9) pl_nil))))) (pd_def h__law_sit rfl hr (by omega) (L2N.takes_of rfl rfl rfl rfl) (pl_cons (pd_var 7) (pl_cons (pd_lst (pl_cons (pd_var 8) (pl_cons (pd_var 9) pl_nil))) pl_nil)))) (pb_one (pd_ret pd_bool)) pb_nil)))))) pb_nil)
    (pb_cons (pd_set 10 hN (pd_lst (pl_cons (pd_sl rfl (pd_var 7) (pt_e pd_int) pt_no) (pl_cons (pd_opD opD_add rfl (pd_var 7) (pd_sl rfl (pd_var 7) pt_no (pt_e pd_int))) (pl_cons (pd_rev rfl (pd_var 7)) (pl_cons (pd_tyD callD_list rfl B.list (by rfl) (pl_cons (pd_var 7) pl_nil)) pl_nil))))))
    (pb_cons (pd_set 10 hN (pd_opD opD_add rfl (pd_var 10) (pd_lst (pl_cons (pd_opD opD_add rfl (pd_sl rfl (pd_var 7) pt_no (pt_e (pd_unD unD_neg rfl pd_int))) (pd_tup (pl_cons (pd_tup pl_nil) pl_nil))) (pl_cons (pd_opD opD_add rfl (pd_sl rfl (pd_var 7) pt_no (pt_e (pd_unD unD_neg rfl pd_int))) (pd_tup (pl_cons (pd_tyD callD_list rfl B.list (by rfl) (pl_cons (pd_ixD rfl (pd_var 7) (pd_unD unD_neg rfl pd_int)) pl_nil)) pl_nil))) pl_nil)))))
    (pb_cons (pd_set 11 hN (pd_ixD rfl (pd_var 10) (pd_callO' (i := 1) h__law_roll rfl hr (by omega) (L2N.takes_of rfl rfl rfl rfl) (pl_cons pd_int pl_nil))))
    (pb_one (pd_ifS (pb_cmpD (opD_ne (hu64 hr)) rfl (pd_def h_is_seating rfl hr (by omega) (L2N.takes_of rfl rfl rfl rfl) (pl_cons (pd_var 2) (pl_cons (pd_var 11) pl_nil))) (pd_cmpD (opD_in (hu65 hr)) rfl (pd_var 11) (pd_var 4))) (pb_one (pd_ret pd_bool)) pb_nil))))))))))
    (pb_cons (pd_set 12 hN (pd_lst (pl_cons pd_none (pl_cons pd_int (pl_cons (pd_tup pl_nil) (pl_cons (pd_tup (pl_cons pd_str pl_nil)) (pl_cons (pd_tup (pl_cons (pd_tup (pl_cons pd_str (pl_cons pd_str pl_nil))) pl_nil)) (pl_cons (pd_tup (pl_cons (pd_tup (pl_cons pd_int (pl_cons pd_int pl_nil))) pl_nil)) pl_nil))))))))
    (pb_cons (pd_set 12 hN (pd_opD opD_add rfl (pd_var 12) (pd_lst (pl_cons (pd_tup (pl_cons (pd_tup (pl_cons pd_str pl_nil)) (pl_cons (pd_tup (pl_cons pd_str pl_nil)) (pl_cons (pd_tup (pl_cons pd_str pl_nil)) (pl_cons (pd_tup (pl_cons pd_str pl_nil)) pl_nil))))) (pl_cons pd_str pl_nil)))))
    (pb_cons (pd_for PassesOwn.leaving rfl (pi_src rfl (pd_var 12)) (pg_nm 13 hN) (pb_cons (pd_setO 14 hN (po_lst (pl_cons (pd_told FD (by rfl) sc__law_told (by rfl) (by rfl) (by rfl) (.inl rfl) (fun _ _ => rfl) FT hmT hkT hbT hpT hRE hxm rfl TB rfl hmq huq (hr.mono (by decide : 15 ≤ 15)) (by decide) (LamX.lamS_by (by kernel_rfl)) (by rfl) (fun _ _ _ _ _ => rfl) (fun A9 outer9 s9 H9 E9 f9 c9 hr9 => (pd_def h_together rfl hr9 (by omega) (L2N.takes_of rfl rfl rfl rfl) (pl_cons (pd_var 2) (pl_cons (pd_var 13) (pl_cons pd_none (pl_cons pd_none pl_nil))))))) pl_nil)) (hl0 hl))
    (pb_cons (pd_expr (pd_append 14 ⟨rfl, by first | exact Or.inl rfl | exact Or.inr (Or.inl rfl) | exact Or.inr (Or.inr rfl), by decide, by decide⟩ (pd_told FD (by rfl) sc__law_told (by rfl) (by rfl) (by rfl) (.inl rfl) (fun _ _ => rfl) FT hmT hkT hbT hpT hRE hxm rfl TB rfl hmq huq (hr.mono (by decide : 15 ≤ 15)) (by decide) (LamX.lamS_by (by kernel_rfl)) (by rfl) (fun _ _ _ _ _ => rfl) (fun A9 outer9 s9 H9 E9 f9 c9 hr9 => (pd_def h_seating_text rfl hr9 (by omega) (L2N.takes_of rfl rfl rfl rfl) (pl_cons (pd_var 2) (pl_cons (pd_var 13) pl_nil)))))))
    (pb_cons (pd_expr (pd_append 14 ⟨rfl, by first | exact Or.inl rfl | exact Or.inr (Or.inl rfl) | exact Or.inr (Or.inr rfl), by decide, by decide⟩ (pd_told FD (by rfl) sc__law_told (by rfl) (by rfl) (by rfl) (.inl rfl) (fun _ _ => rfl) FT hmT hkT hbT hpT hRE hxm rfl TB rfl hmq huq (hr.mono (by decide : 15 ≤ 15)) (by decide) (LamX.lamS_by (by kernel_rfl)) (by rfl) (fun _ _ _ _ _ => rfl) (fun A9 outer9 s9 H9 E9 f9 c9 hr9 => (pd_methN M_Book_sit rfl hr9 (by omega) (L2N.takes_of rfl rfl rfl rfl) (pn_make I_Book rfl hr9 (by omega) (L2N.takes_of rfl rfl rfl rfl) (pl_cons (pd_var 2) pl_nil)) (pl_cons (pd_var 13) pl_nil))))))
    (pb_one (pd_ifS (pb_w (pb_or (pb_cmpD opD_isNot rfl (pd_def h_is_seating rfl hr (by omega) (L2N.takes_of rfl rfl rfl rfl) (pl_cons (pd_var 2) (pl_cons (pd_var 13) pl_nil))) pd_bool) (pb_or1 (pb_cmpOD 14 ⟨rfl, by first | exact Or.inl rfl | exact Or.inr (Or.inl rfl) | exact Or.inr (Or.inr rfl), by decide, by decide⟩ (opD_ne (hu64 hr)) rfl (pd_opD opD_mul rfl (pd_lst (pl_cons (pd_tup (pl_cons pd_str (pl_cons pd_str pl_nil))) pl_nil)) pd_int))))) (pb_one (pd_ret pd_bool)) pb_nil))))))
    (pb_one (pd_for PassesOwn.leaving rfl (pi_src rfl (pd_sl rfl (pd_var 4) pt_no (pt_e pd_int))) (pg_nm 7 hN) (pb_one (pd_for PassesOwn.leaving rfl (pi_src rfl (pd_lst (pl_cons pd_none (pl_cons pd_int (pl_cons pd_str (pl_cons (pd_tup (pl_cons pd_str pl_nil)) pl_nil)))))) (pg_nm 13 hN) (pb_cons (pd_setO 14 hN (po_lst (pl_cons (pd_told FD (by rfl) sc__law_told (by rfl) (by rfl) (by rfl) (.inl rfl) (fun _ _ => rfl) FT hmT hkT hbT hpT hRE hxm rfl TB rfl hmq huq (hr.mono (by decide : 15 ≤ 15)) (by decide) (LamX.lamS_by (by kernel_rfl)) (by rfl) (fun _ _ _ _ _ => rfl) (fun A9 outer9 s9 H9 E9 f9 c9 hr9 => (pd_def h_together rfl hr9 (by omega) (L2N.takes_of rfl rfl rfl rfl) (pl_cons (pd_var 2) (pl_cons (pd_var 7) (pl_cons (pd_var 13) (pl_cons pd_none pl_nil))))))) pl_nil)) (hl0 hl))
    (pb_cons (pd_expr (pd_append 14 ⟨rfl, by first | exact Or.inl rfl | exact Or.inr (Or.inl rfl) | exact Or.inr (Or.inr rfl), by decide, by decide⟩ (pd_told FD (by rfl) sc__law_told (by rfl) (by rfl) (by rfl) (.inl rfl) (fun _ _ => rfl) FT hmT hkT hbT hpT hRE hxm rfl TB rfl hmq huq (hr.mono (by decide : 15 ≤ 15)) (by decide) (LamX.lamS_by (by kernel_rfl)) (by rfl) (fun _ _ _ _ _ => rfl) (fun A9 outer9 s9 H9 E9 f9 c9 hr9 => (pd_def h_together rfl hr9 (by omega) (L2N.takes_of rfl rfl rfl rfl) (pl_cons (pd_var 2) (pl_cons (pd_var 7) (pl_cons pd_str (pl_cons (pd_var 13) pl_nil)))))))))
    (pb_one (pd_ifS (pb_cmpOD 14 ⟨rfl, by first | exact Or.inl rfl | exact Or.inr (Or.inl rfl) | exact Or.inr (Or.inr rfl), by decide, by decide⟩ (opD_ne (hu64 hr)) rfl (pd_opD opD_mul rfl (pd_lst (pl_cons (pd_tup (pl_cons pd_str (pl_cons pd_str pl_nil))) pl_nil)) pd_int)) (pb_one (pd_ret pd_bool)) pb_nil)))))))))))))))))
    (pb_one (pd_ret pd_bool)))
end
end K02

namespace K02
open PySem PySem.Spec L2 RH
abbrev lay (Pt C0 C1 C2 C3 C4 C5 C6 C7 C8 C9 C10 C11 B0 : Addr) : Lay := { T := [(Pt, ("law.<locals>.<lambda>" : Str))], exa := 0, ex := fun k => match k with | 0 => C0 | 1 => C1 | 2 => C2 | 3 => C3 | 4 => C4 | 5 => C5 | 6 => C6 | 7 => C7 | 8 => C8 | 9 => C9 | 10 => C10 | 11 => C11 | _ => 0, cl := fun k => match k with | 0 => B0 | _ => 0, dct := fun _ _ _ _ _ => False, dctExt := fun _ h => h, dctMut := fun h => h.elim }
theorem rc {c : Nat} (h : raised.contains c = true) : c = 2 ∨ c = 3 := by simpa [raised] using h
theorem fin {l : PySem.W.OpenLaw} {w : World} {K : PySem.W.Frag} {mg : Str → Option Value} {h : Heap} {fa fL cc Pt : Addr} {C0 C1 C2 C3 C4 C5 C6 C7 C8 C9 C10 C11 : Addr} {B0 : Addr} {t_SMALL : Tok} {oc : Value} {od : Option Addr} {kV doc pm : Value} {an : Option Addr} {ct : Value} {osl : Array (Option Value)} {q1 : Value} {q2 : Option Addr} {vs : Array Value} {q4 : Array (Option Value)}
    (hφ : ∀ ns : List Int, ns.length ≤ 63 → (∀ z ∈ ns, Builtin.Int.intBits z ≤ 1048576) → ∃ ss, φ_law [.val (.list (ns.map PyData.int))] = some (.ok (.bool true) ss))
    (KX : K.In h) (G : h.Ns mainGlobals mg) (hmg : mg "law" = some (.ref fa)) (hP : h.get? Pt = some { cls := .none, data := .fields #[] })
    (aE0 : PySem.W.nsIn K mainGlobals "RoomError" = some (some (.ref C0)))
    (aE1 : PySem.W.nsIn K mainGlobals "BadHouse" = some (some (.ref C1)))
    (aE2 : PySem.W.nsIn K mainGlobals "BadName" = some (some (.ref C2)))
    (aE3 : PySem.W.nsIn K mainGlobals "BadSeating" = some (some (.ref C3)))
    (aE4 : PySem.W.nsIn K mainGlobals "BadDay" = some (some (.ref C4)))
    (aE5 : PySem.W.nsIn K mainGlobals "BadHours" = some (some (.ref C5)))
    (aE6 : PySem.W.nsIn K mainGlobals "BadTable" = some (some (.ref C6)))
    (aE7 : PySem.W.nsIn K mainGlobals "BadWeights" = some (some (.ref C7)))
    (aE8 : PySem.W.nsIn K mainGlobals "BadSeen" = some (some (.ref C8)))
    (aE9 : PySem.W.nsIn K mainGlobals "Nothing" = some (some (.ref C9)))
    (aE10 : PySem.W.nsIn K mainGlobals "Full" = some (some (.ref C10)))
    (aE11 : PySem.W.nsIn K mainGlobals "BadText" = some (some (.ref C11)))
    (aB_Book : PySem.W.nsIn K mainGlobals "Book" = some (some (.ref B0)))
    (aL : PySem.W.nsIn K mainGlobals "law" = some (some (.ref fL)))
    (lL : K.lookup fL = some ⟨oc, od, .func (PySem.W.fnOf "law" "law" (defArgs s_law) (defBody s_law) (defScope s_law) .none kV doc pm an (.ref cc) ct), osl⟩)
    (cL : PySem.W.codeIn K (.ref cc) "law" = true)
    (lc : K.lookup cc = some ⟨q1, q2, .fields vs, q4⟩)
    (v11 : vs[11]? = some (.ref Pt))
    (hd : PySem.W.codeHdIn K cc Pt = true)
    (np : K.lookup Pt = none)
    (ktb : ktB K = true)
    (z_len : PySem.W.nsIn K mainGlobals "len" = some none)
    (z_range : PySem.W.nsIn K mainGlobals "range" = some none)
    (z_enumerate : PySem.W.nsIn K mainGlobals "enumerate" = some none)
    (z_zip : PySem.W.nsIn K mainGlobals "zip" = some none)
    (z_all : PySem.W.nsIn K mainGlobals "all" = some none)
    (z_any : PySem.W.nsIn K mainGlobals "any" = some none)
    (z_sum : PySem.W.nsIn K mainGlobals "sum" = some none)
    (z_min : PySem.W.nsIn K mainGlobals "min" = some none)
    (z_max : PySem.W.nsIn K mainGlobals "max" = some none)
    (z_abs : PySem.W.nsIn K mainGlobals "abs" = some none)
    (z_sorted : PySem.W.nsIn K mainGlobals "sorted" = some none)
    (z_isinstance : PySem.W.nsIn K mainGlobals "isinstance" = some none)
    (z_int : PySem.W.nsIn K mainGlobals "int" = some none)
    (z_bool : PySem.W.nsIn K mainGlobals "bool" = some none)
    (z_str : PySem.W.nsIn K mainGlobals "str" = some none)
    (z_tuple : PySem.W.nsIn K mainGlobals "tuple" = some none)
    (z_list : PySem.W.nsIn K mainGlobals "list" = some none)
    (z_dict : PySem.W.nsIn K mainGlobals "dict" = some none)
    (z_ValueError : PySem.W.nsIn K mainGlobals "ValueError" = some none)
    (n_SMALL : PySem.W.nsIn K mainGlobals "SMALL" = some (some (.str "abcdefghijklmnopqrstuvwxyz" t_SMALL)))
    (xF1 : PySem.W.excIn K C1 [.type "ValueError", .type "Exception", .type "BaseException", .type "object"] "ValueError.__new__" = true)
    (kF1 : PySem.W.keepIn K (.ref C1) = true)
    (bF1 : PySem.W.subIn K (.ref C1) (.type "BaseException") = some true)
    (tF1 : PySem.W.typeIn K (.ref C1) = some (.type "type"))
    (xF2 : PySem.W.excIn K C2 [.type "ValueError", .type "Exception", .type "BaseException", .type "object"] "ValueError.__new__" = true)
    (kF2 : PySem.W.keepIn K (.ref C2) = true)
    (bF2 : PySem.W.subIn K (.ref C2) (.type "BaseException") = some true)
    (tF2 : PySem.W.typeIn K (.ref C2) = some (.type "type"))
    (xF3 : PySem.W.excIn K C3 [.type "ValueError", .type "Exception", .type "BaseException", .type "object"] "ValueError.__new__" = true)
    (kF3 : PySem.W.keepIn K (.ref C3) = true)
    (bF3 : PySem.W.subIn K (.ref C3) (.type "BaseException") = some true)
    (tF3 : PySem.W.typeIn K (.ref C3) = some (.type "type"))
    (hg2 : PySem.W.findIn K (.ref C2) "__getattribute__" = some (some (.builtin "BaseException.__getattribute__")))
    (hk2 : PySem.W.findIn K (.ref C2) "__getattr__" = some none)
    (hd2 : PySem.W.hasDictIn K C2 = true)
    (ha2 : PySem.W.findIn K (.ref C2) "__class__" = some (some (.builtin "object.__class__")))
    (hm2 : PySem.W.mroIn K C2 (.type "object") = some true)
    (kv2 : PySem.W.kitOne K (.ref C2) (.type "ValueError") = some true)
    (xm2 : PySem.W.exmOne K (.ref C2) (.ref C0) = some true)
    (kt2_1 : PySem.W.kitOne K (.ref C2) (.ref C1) = some false)
    (kt2_2 : PySem.W.kitOne K (.ref C2) (.ref C2) = some true)
    (kt2_3 : PySem.W.kitOne K (.ref C2) (.ref C3) = some false)
    (kt2_4 : PySem.W.kitOne K (.ref C2) (.ref C4) = some false)
    (kt2_5 : PySem.W.kitOne K (.ref C2) (.ref C5) = some false)
    (kt2_6 : PySem.W.kitOne K (.ref C2) (.ref C6) = some false)
    (kt2_7 : PySem.W.kitOne K (.ref C2) (.ref C7) = some false)
    (kt2_8 : PySem.W.kitOne K (.ref C2) (.ref C8) = some false)
    (kt2_9 : PySem.W.kitOne K (.ref C2) (.ref C9) = some false)
    (kt2_10 : PySem.W.kitOne K (.ref C2) (.ref C10) = some false)
    (kt2_11 : PySem.W.kitOne K (.ref C2) (.ref C11) = some false)
    (hg3 : PySem.W.findIn K (.ref C3) "__getattribute__" = some (some (.builtin "BaseException.__getattribute__")))
    (hk3 : PySem.W.findIn K (.ref C3) "__getattr__" = some none)
    (hd3 : PySem.W.hasDictIn K C3 = true)
    (ha3 : PySem.W.findIn K (.ref C3) "__class__" = some (some (.builtin "object.__class__")))
    (hm3 : PySem.W.mroIn K C3 (.type "object") = some true)
    (kv3 : PySem.W.kitOne K (.ref C3) (.type "ValueError") = some true)
    (xm3 : PySem.W.exmOne K (.ref C3) (.ref C0) = some true)
    (kt3_1 : PySem.W.kitOne K (.ref C3) (.ref C1) = some false)
    (kt3_2 : PySem.W.kitOne K (.ref C3) (.ref C2) = some false)
    (kt3_3 : PySem.W.kitOne K (.ref C3) (.ref C3) = some true)
    (kt3_4 : PySem.W.kitOne K (.ref C3) (.ref C4) = some false)
    (kt3_5 : PySem.W.kitOne K (.ref C3) (.ref C5) = some false)
    (kt3_6 : PySem.W.kitOne K (.ref C3) (.ref C6) = some false)
    (kt3_7 : PySem.W.kitOne K (.ref C3) (.ref C7) = some false)
    (kt3_8 : PySem.W.kitOne K (.ref C3) (.ref C8) = some false)
    (kt3_9 : PySem.W.kitOne K (.ref C3) (.ref C9) = some false)
    (kt3_10 : PySem.W.kitOne K (.ref C3) (.ref C10) = some false)
    (kt3_11 : PySem.W.kitOne K (.ref C3) (.ref C11) = some false)
    (hn : PySem.W.specialIn K (.builtin "object.__class__") "__get__" = some (some (.builtin "getset_descriptor.__get__")))
    (ht : PySem.W.takesIn K (.builtin "object.__class__") = some true)
    (pg_Book : PySem.W.plainGet K B0 Str.empty = true)
    (hd_Book : PySem.W.hasDictIn K B0 = true)
    (po_Book : PySem.W.plainOver K B0 = true)
    (sa_Book : PySem.W.findIn K (.ref B0) "__setattr__" = some (some (.builtin "object.__setattr__")))
    (nf_Book_home : PySem.W.findIn K (.ref B0) "home" = some none)
    (nf_Book_sat : PySem.W.findIn K (.ref B0) "sat" = some none)
    (D_is_whole : DefF K mg "is_whole" "is_whole" s_is_whole ["thing", "low", "high"])
    (D_is_word : DefF K mg "is_word" "is_word" s_is_word ["thing"])
    (D_rise : DefF K mg "rise" "rise" s_rise ["rows"])
    (D_two_by_two : DefF K mg "two_by_two" "two_by_two" s_two_by_two ["folk"])
    (D_are_names : DefF K mg "are_names" "are_names" s_are_names ["thing"])
    (D_is_house : DefF K mg "is_house" "is_house" s_is_house ["thing"])
    (D_need_house : DefF K mg "need_house" "need_house" s_need_house ["thing"])
    (D_partings : DefF K mg "partings" "partings" s_partings ["folk"])
    (D_is_let : DefF K mg "is_let" "is_let" s_is_let ["house", "seating"])
    (D_all_seatings : DefF K mg "all_seatings" "all_seatings" s_all_seatings ["house"])
    (D_seatings : DefF K mg "seatings" "seatings" s_seatings ["house"])
    (D_is_good_seating : DefF K mg "is_good_seating" "is_good_seating" s_is_good_seating ["house", "thing"])
    (D_is_seating : DefF K mg "is_seating" "is_seating" s_is_seating ["house", "thing"])
    (D_need_seating : DefF K mg "need_seating" "need_seating" s_need_seating ["house", "thing"])
    (D_need_name : DefF K mg "need_name" "need_name" s_need_name ["house", "one"])
    (D_do_sit : DefF K mg "do_sit" "do_sit" s_do_sit ["seating", "some"])
    (D_together : DefF K mg "together" "together" s_together ["house", "seating", "one", "other"])
    (D_Book___init__ : DefI K mg B0 "Book" "Book.__init__" s_Book___init__ ["self", "house"])
    (D_Book_sit : DefM K B0 "sit" "Book.sit" s_Book_sit ["self", "seating"])
    (D_seating_text : DefF K mg "seating_text" "seating_text" s_seating_text ["house", "seating"])
    (D__law_cell : DefF K mg "_law_cell" "_law_cell" s__law_cell ["_law_script", "_law_k"])
    (D__law_drawn : DefF K mg "_law_drawn" "_law_drawn" s__law_drawn ["_law_cell_here", "_law_k"])
    (D__law_roll : DefF K mg "_law_roll" "_law_roll" s__law_roll ["_law_dice", "_law_many"])
    (D__law_rounds : DefF K mg "_law_rounds" "_law_rounds" s__law_rounds ["_law_script", "_law_high"])
    (D__law_term : DefF K mg "_law_term" "_law_term" s__law_term ["_law_e"])
    (D__law_told : DefF K mg "_law_told" "_law_told" s__law_told ["_law_deed"])
    (D__law_pairs : DefF K mg "_law_pairs" "_law_pairs" s__law_pairs ["_law_folk"])
    (D__law_any_house : DefF K mg "_law_any_house" "_law_any_house" s__law_any_house ["_law_dice"])
    (D__law_all_seatings : DefF K mg "_law_all_seatings" "_law_all_seatings" s__law_all_seatings ["_law_house"])
    (D__law_sit : DefF K mg "_law_sit" "_law_sit" s__law_sit ["_law_seating", "_law_some"]) : LamX.LawAtS l w K (L2N.CX l.prog w) 16 63 "_law_script" mg fa h := by
  have KTK : KT K := kt_of ktb
  have B : Bl mg := ⟨PySem.W.mg_none_of KX G z_len, PySem.W.mg_none_of KX G z_range, PySem.W.mg_none_of KX G z_enumerate, PySem.W.mg_none_of KX G z_zip, PySem.W.mg_none_of KX G z_all, PySem.W.mg_none_of KX G z_any, PySem.W.mg_none_of KX G z_sum, PySem.W.mg_none_of KX G z_min, PySem.W.mg_none_of KX G z_max, PySem.W.mg_none_of KX G z_abs, PySem.W.mg_none_of KX G z_sorted, PySem.W.mg_none_of KX G z_isinstance, PySem.W.mg_none_of KX G z_int, PySem.W.mg_none_of KX G z_bool, PySem.W.mg_none_of KX G z_str, PySem.W.mg_none_of KX G z_tuple, PySem.W.mg_none_of KX G z_list, PySem.W.mg_none_of KX G z_dict⟩
  have hVE : mg "ValueError" = none := PySem.W.mg_none_of KX G z_ValueError
  let Y : Lay := lay Pt C0 C1 C2 C3 C4 C5 C6 C7 C8 C9 C10 C11 B0
  have ec : ∀ c, raised.contains c = true → ExcC K (Y.ex c) := fun c hc => by
    rcases rc hc with rfl | rfl
    · exact ⟨hg2, hk2, bF2, hd2, ha2, hn, ht, hm2⟩
    · exact ⟨hg3, hk3, bF3, hd3, ha3, hn, ht, hm3⟩
  have kv : ∀ c, raised.contains c = true → PySem.W.kitOne K (.ref (Y.ex c)) (.type "ValueError") = some true := fun c hc => by
    rcases rc hc with rfl | rfl
    · exact kv2
    · exact kv3
  have hxr : ∀ c, raised.contains c = true → PySem.W.exmOne K (.ref (Y.ex c)) (.ref C0) = some true := fun c hc => by
    rcases rc hc with rfl | rfl
    · exact xm2
    · exact xm3
  have kt_BadHouse : ∀ c, raised.contains c = true → PySem.W.kitOne K (.ref (Y.ex c)) (.ref (Y.ex 1)) = some (c == 1) := fun c hc => by
    rcases rc hc with rfl | rfl
    · exact kt2_1
    · exact kt3_1
  have c_BadHouse : mg "BadHouse" = some (.ref (Y.ex 1)) := PySem.W.mg_of KX G aE1
  have kt_BadName : ∀ c, raised.contains c = true → PySem.W.kitOne K (.ref (Y.ex c)) (.ref (Y.ex 2)) = some (c == 2) := fun c hc => by
    rcases rc hc with rfl | rfl
    · exact kt2_2
    · exact kt3_2
  have c_BadName : mg "BadName" = some (.ref (Y.ex 2)) := PySem.W.mg_of KX G aE2
  have kt_BadSeating : ∀ c, raised.contains c = true → PySem.W.kitOne K (.ref (Y.ex c)) (.ref (Y.ex 3)) = some (c == 3) := fun c hc => by
    rcases rc hc with rfl | rfl
    · exact kt2_3
    · exact kt3_3
  have c_BadSeating : mg "BadSeating" = some (.ref (Y.ex 3)) := PySem.W.mg_of KX G aE3
  have kt_BadDay : ∀ c, raised.contains c = true → PySem.W.kitOne K (.ref (Y.ex c)) (.ref (Y.ex 4)) = some (c == 4) := fun c hc => by
    rcases rc hc with rfl | rfl
    · exact kt2_4
    · exact kt3_4
  have c_BadDay : mg "BadDay" = some (.ref (Y.ex 4)) := PySem.W.mg_of KX G aE4
  have kt_BadHours : ∀ c, raised.contains c = true → PySem.W.kitOne K (.ref (Y.ex c)) (.ref (Y.ex 5)) = some (c == 5) := fun c hc => by
    rcases rc hc with rfl | rfl
    · exact kt2_5
    · exact kt3_5
  have c_BadHours : mg "BadHours" = some (.ref (Y.ex 5)) := PySem.W.mg_of KX G aE5
  have kt_BadTable : ∀ c, raised.contains c = true → PySem.W.kitOne K (.ref (Y.ex c)) (.ref (Y.ex 6)) = some (c == 6) := fun c hc => by
    rcases rc hc with rfl | rfl
    · exact kt2_6
    · exact kt3_6
  have c_BadTable : mg "BadTable" = some (.ref (Y.ex 6)) := PySem.W.mg_of KX G aE6
  have kt_BadWeights : ∀ c, raised.contains c = true → PySem.W.kitOne K (.ref (Y.ex c)) (.ref (Y.ex 7)) = some (c == 7) := fun c hc => by
    rcases rc hc with rfl | rfl
    · exact kt2_7
    · exact kt3_7
  have c_BadWeights : mg "BadWeights" = some (.ref (Y.ex 7)) := PySem.W.mg_of KX G aE7
  have kt_BadSeen : ∀ c, raised.contains c = true → PySem.W.kitOne K (.ref (Y.ex c)) (.ref (Y.ex 8)) = some (c == 8) := fun c hc => by
    rcases rc hc with rfl | rfl
    · exact kt2_8
    · exact kt3_8
  have c_BadSeen : mg "BadSeen" = some (.ref (Y.ex 8)) := PySem.W.mg_of KX G aE8
  have kt_Nothing : ∀ c, raised.contains c = true → PySem.W.kitOne K (.ref (Y.ex c)) (.ref (Y.ex 9)) = some (c == 9) := fun c hc => by
    rcases rc hc with rfl | rfl
    · exact kt2_9
    · exact kt3_9
  have c_Nothing : mg "Nothing" = some (.ref (Y.ex 9)) := PySem.W.mg_of KX G aE9
  have kt_Full : ∀ c, raised.contains c = true → PySem.W.kitOne K (.ref (Y.ex c)) (.ref (Y.ex 10)) = some (c == 10) := fun c hc => by
    rcases rc hc with rfl | rfl
    · exact kt2_10
    · exact kt3_10
  have c_Full : mg "Full" = some (.ref (Y.ex 10)) := PySem.W.mg_of KX G aE10
  have kt_BadText : ∀ c, raised.contains c = true → PySem.W.kitOne K (.ref (Y.ex c)) (.ref (Y.ex 11)) = some (c == 11) := fun c hc => by
    rcases rc hc with rfl | rfl
    · exact kt2_11
    · exact kt3_11
  have c_BadText : mg "BadText" = some (.ref (Y.ex 11)) := PySem.W.mg_of KX G aE11
  have hRE : mg "RoomError" = some (.ref C0) := PySem.W.mg_of KX G aE0
  have x_BadHouse : ExF K mg "BadHouse" (Y.ex 1) := ⟨PySem.W.mg_of KX G aE1, ⟨_, _, _, _, PySem.F.excBase_ValueError, xF1⟩, kF1, bF1, tF1⟩
  have x_BadName : ExF K mg "BadName" (Y.ex 2) := ⟨PySem.W.mg_of KX G aE2, ⟨_, _, _, _, PySem.F.excBase_ValueError, xF2⟩, kF2, bF2, tF2⟩
  have x_BadSeating : ExF K mg "BadSeating" (Y.ex 3) := ⟨PySem.W.mg_of KX G aE3, ⟨_, _, _, _, PySem.F.excBase_ValueError, xF3⟩, kF3, bF3, tF3⟩
  have g_SMALL := PySem.W.mg_of KX G n_SMALL
  have hc_Book : Cls K (Y.cl 0) := ⟨pg_Book, hd_Book, po_Book, sa_Book⟩
  have hf_Book_home : NoAttr K (Y.cl 0) "home" := nf_Book_home
  have hf_Book_sat : NoAttr K (Y.cl 0) "sat" := nf_Book_sat
  refine law_at (Y := Y) (φ := φ_law) KX G hmg hP aL lL hd np rfl (fun s u => .of_eq rfl) hφ fun base KB GB TB => ?_
  have hYT : Y.T = [(Pt, ("law.<locals>.<lambda>" : Str))] := rfl
  have h_is_whole := ok_is_whole (P := l.prog) (w := w) (K := K) (mg := mg) (base := base) (Y := Y) B KTK D_is_whole 
  have h_is_word := ok_is_word (P := l.prog) (w := w) (K := K) (mg := mg) (base := base) (Y := Y) B KTK D_is_word g_SMALL
  have h_rise := ok_rise (P := l.prog) (w := w) (K := K) (mg := mg) (base := base) (Y := Y) B KTK D_rise 
  have h_two_by_two := ok_two_by_two (P := l.prog) (w := w) (K := K) (mg := mg) (base := base) (Y := Y) B KTK D_two_by_two 
  have h_are_names := ok_are_names (P := l.prog) (w := w) (K := K) (mg := mg) (base := base) (Y := Y) B KTK D_are_names 
  have h_is_house := ok_is_house (P := l.prog) (w := w) (K := K) (mg := mg) (base := base) (Y := Y) B KTK D_is_house h_rise h_is_word h_are_names h_is_whole h_two_by_two
  have h_need_house := ok_need_house (P := l.prog) (w := w) (K := K) (mg := mg) (base := base) (Y := Y) B KTK D_need_house h_is_house x_BadHouse
  have h_partings := ok_partings (P := l.prog) (w := w) (K := K) (mg := mg) (base := base) (Y := Y) B KTK D_partings  fuel
  have h_is_let := ok_is_let (P := l.prog) (w := w) (K := K) (mg := mg) (base := base) (Y := Y) B KTK D_is_let 
  have h_all_seatings := ok_all_seatings (P := l.prog) (w := w) (K := K) (mg := mg) (base := base) (Y := Y) B KTK D_all_seatings h_partings h_is_let
  have h_seatings := ok_seatings (P := l.prog) (w := w) (K := K) (mg := mg) (base := base) (Y := Y) B KTK D_seatings h_need_house h_all_seatings
  have h_is_good_seating := ok_is_good_seating (P := l.prog) (w := w) (K := K) (mg := mg) (base := base) (Y := Y) B KTK D_is_good_seating h_all_seatings h_are_names
  have h_is_seating := ok_is_seating (P := l.prog) (w := w) (K := K) (mg := mg) (base := base) (Y := Y) B KTK D_is_seating h_need_house h_is_good_seating
  have h_need_seating := ok_need_seating (P := l.prog) (w := w) (K := K) (mg := mg) (base := base) (Y := Y) B KTK D_need_seating h_is_good_seating x_BadSeating
  have h_need_name := ok_need_name (P := l.prog) (w := w) (K := K) (mg := mg) (base := base) (Y := Y) B KTK D_need_name x_BadName
  have h_do_sit := ok_do_sit (P := l.prog) (w := w) (K := K) (mg := mg) (base := base) (Y := Y) B KTK D_do_sit 
  have h_together := ok_together (P := l.prog) (w := w) (K := K) (mg := mg) (base := base) (Y := Y) B KTK D_together h_need_house h_need_seating h_need_name h_do_sit
  have I_Book := ok_Book___init__ (P := l.prog) (w := w) (K := K) (mg := mg) (base := base) (Y := Y) B KTK D_Book___init__ hc_Book hf_Book_home hf_Book_sat h_need_house
  have M_Book_sit := ok_Book_sit (P := l.prog) (w := w) (K := K) (mg := mg) (base := base) (Y := Y) B KTK D_Book_sit hc_Book hf_Book_home h_need_seating
  have h_seating_text := ok_seating_text (P := l.prog) (w := w) (K := K) (mg := mg) (base := base) (Y := Y) B KTK D_seating_text h_need_house h_need_seating
  have h__law_cell := ok__law_cell (P := l.prog) (w := w) (K := K) (mg := mg) (base := base) (Y := Y) B KTK D__law_cell 
  have h__law_drawn := ok__law_drawn (P := l.prog) (w := w) (K := K) (mg := mg) (base := base) (Y := Y) B KTK D__law_drawn 
  have h__law_roll := ok__law_roll (P := l.prog) (w := w) (K := K) (mg := mg) (base := base) (Y := Y) B KTK D__law_roll h__law_drawn
  have h__law_rounds := ok__law_rounds (P := l.prog) (w := w) (K := K) (mg := mg) (base := base) (Y := Y) B KTK D__law_rounds h__law_cell
  have h__law_term := ok__law_term (P := l.prog) (w := w) (K := K) (mg := mg) (base := base) (Y := Y) B KTK D__law_term hVE ec kv c_BadHouse kt_BadHouse c_BadName kt_BadName c_BadSeating kt_BadSeating c_BadDay kt_BadDay c_BadHours kt_BadHours c_BadTable kt_BadTable c_BadWeights kt_BadWeights c_BadSeen kt_BadSeen c_Nothing kt_Nothing c_Full kt_Full c_BadText kt_BadText
  have h__law_pairs := ok__law_pairs (P := l.prog) (w := w) (K := K) (mg := mg) (base := base) (Y := Y) B KTK D__law_pairs 
  have h__law_any_house := ok__law_any_house (P := l.prog) (w := w) (K := K) (mg := mg) (base := base) (Y := Y) B KTK D__law_any_house h__law_roll h__law_pairs
  have h__law_all_seatings := ok__law_all_seatings (P := l.prog) (w := w) (K := K) (mg := mg) (base := base) (Y := Y) B KTK D__law_all_seatings 
  have h__law_sit := ok__law_sit (P := l.prog) (w := w) (K := K) (mg := mg) (base := base) (Y := Y) B KTK D__law_sit 
  exact ok_law (P := l.prog) (w := w) (K := K) (mg := mg) (base := base) (Y := Y) B KTK lL cL h__law_rounds I_Book M_Book_sit h__law_any_house h__law_all_seatings h_seatings h__law_roll h_is_seating h_together h__law_sit h_seating_text D__law_told h__law_term hRE hxr TB hYT
end K02

namespace K02
open PySem PySem.Spec L2 RH
abbrev dice (c k : Int) : Slot := .own (.b (.lst [.int c, .int k]))
theorem bits_le {x : Int} {n : Nat} (h : x.natAbs < 2 ^ n) : Builtin.Int.intBits x ≤ n := by
  unfold Builtin.Int.intBits
  split
  · exact Nat.zero_le _
  · rename_i h0
    have hz : x.natAbs ≠ 0 := by
      intro z
      exact h0 (by simp [Int.natAbs_eq_zero.mp z])
    have := (Nat.log2_lt hz).mpr h
    omega
theorem natAbs_lt_bits {x : Int} : x.natAbs < 2 ^ (Builtin.Int.intBits x) := by
  unfold Builtin.Int.intBits
  split
  · rename_i h0
    have : x = 0 := by simpa using h0
    subst this
    decide
  · rename_i h0
    have hz : x.natAbs ≠ 0 := by
      intro z
      exact h0 (by simp [Int.natAbs_eq_zero.mp z])
    exact (Nat.log2_lt hz).mp (Nat.lt_succ_self _)
theorem imodD_ii {i j : Int} (h : 0 < j) : imodD (.int i) (.int j) = some (.int (i % j)) := by
  unfold imodD iiD
  simp [h]
theorem idivD_ii {i j : Int} (h : 0 < j) (h2 : j.natAbs.log2 < 9000) : idivD (.int i) (.int j) = some (.int (i / j)) := by
  unfold idivD iiD idivOk
  simp [h, h2]
theorem addD_ii (i j : Int) : addD (.int i) (.int j) = some (.int (i + j)) := rfl
theorem mulD_ii {i j : Int} {a b : Nat} (h1 : i.natAbs < 2 ^ a) (h2 : j.natAbs < 2 ^ b) (h3 : a + b ≤ 134217728) : mulD (.int i) (.int j) = some (.int (i * j)) := by
  have e : imulOk i j = true := by
    unfold imulOk
    have := bits_le h1
    have := bits_le h2
    exact decide_eq_true (by omega)
  unfold mulD orF2 imulD iiD
  simp only [e, if_true]
def BB : Nat := 4000000
/-- a die: n rolls left -/
structure Dice (n : Nat) (c k : Int) : Prop where
  bits : c.natAbs < 2 ^ BB
  lo : 0 ≤ k
  hi : k + n ≤ 1000000
theorem pow_mono {a b : Nat} (h : a ≤ b) : 2 ^ a ≤ 2 ^ b := Nat.pow_le_pow_right (by decide) h
theorem phi2 {m : MS} {a b d a' b' z : PyData} (e : m [.val a, .val b, .no] = some (.rt d [.val a', .val b', .val z])) : fnPhi 1 m [.val a, .val b] = some (.ok d [.val a, .val b]) := by
  show (match m [.val a, .val b, .no] with
    | none => none
    | some (.nx δ) => some (Out.ok .none (outS _ δ))
    | some (.rt d δ) => some (Out.ok d (outS _ δ))
    | some (.ex c δ) => some (Out.ex c (outS _ δ))) = _
  rw [e]
  rfl
theorem phi2o {m : MS} {o o' : Own} {b d b' : PyData} {z : Slot} (e : m [.own o, .val b, .no] = some (.rt d [.own o', .val b', z])) : fnPhi 1 m [.own o, .val b] = some (.ok d [.own o', .val b]) := by
  show (match m [.own o, .val b, .no] with
    | none => none
    | some (.nx δ) => some (Out.ok .none (outS _ δ))
    | some (.rt d δ) => some (Out.ok d (outS _ δ))
    | some (.ex c δ) => some (Out.ex c (outS _ δ))) = _
  rw [e]
  rfl
def md (A B P Q q : Int) : MS := sseq (sasg (.nm 2) (m2 imodD (m2 addD (m2 mulD (mvar 0) (mpure (.int A))) (m2 mulD (m2 addD (mvar 1) (mpure (.int 1))) (mpure (.int B)))) (mpure (.int P))))
    (sseq (sasg (.nm 2) (m2 imodD (m2 mulD (mvar 2) (mvar 2)) (mpure (.int Q))))
    (sseq (sasg (.nm 2) (m2 mulD (m2 mulD (m2 addD (m2 imodD (mvar 2) (mpure (.int q))) (mpure (.int 1))) (m2 addD (m2 idivD (mvar 2) (mpure (.int q))) (mpure (.int 1)))) (mvar 2)))
    (sret (m2 imodD (mvar 2) (mpure (.int P))))))
theorem md_eq : m__law_drawn = md 6364136223846793005 1442695040888963407 340282366920938463463374607431768211507 340282366920938463463374607431768211297 18446744073709551557 := rfl
theorem md_ev {A B P Q q c k x y : Int} (h1 : mulD (.int c) (.int A) = some (.int (c * A))) (h2 : mulD (.int (k + 1)) (.int B) = some (.int ((k + 1) * B))) (hP : 0 < P) (hQ : 0 < Q) (hq : 0 < q) (hq2 : q.natAbs.log2 < 9000)
    (hx : (c * A + (k + 1) * B) % P = x) (h3 : mulD (.int x) (.int x) = some (.int (x * x))) (hy : x * x % Q = y) (h4 : mulD (.int (y % q + 1)) (.int (y / q + 1)) = some (.int ((y % q + 1) * (y / q + 1))))
    (h5 : mulD (.int ((y % q + 1) * (y / q + 1))) (.int y) = some (.int ((y % q + 1) * (y / q + 1) * y))) :
    md A B P Q q [.val (.int c), .val (.int k), .no] = some (.rt (.int ((y % q + 1) * (y / q + 1) * y % P)) [.val (.int c), .val (.int k), .val (.int ((y % q + 1) * (y / q + 1) * y))]) := by
  unfold md
  refine st_seq (st_asg (ev_m2 (ev_m2 (ev_m2 rfl rfl h1) (ev_m2 (ev_m2 rfl rfl (addD_ii _ _)) rfl h2) (addD_ii _ _)) rfl (by rw [imodD_ii hP, hx])) rfl) ?_
  refine st_seq (st_asg (ev_m2 (ev_m2 rfl rfl h3) rfl (by rw [imodD_ii hQ, hy])) rfl) ?_
  refine st_seq (st_asg (ev_m2 (ev_m2 (ev_m2 (ev_m2 rfl rfl (imodD_ii hq)) rfl (addD_ii _ _)) (ev_m2 (ev_m2 rfl rfl (idivD_ii hq hq2)) rfl (addD_ii _ _)) h4) rfl h5) rfl) ?_
  exact st_ret (ev_m2 rfl rfl (imodD_ii hP))
theorem drawn_ok {n : Nat} {c k : Int} (h : Dice n c k) : ∃ r, φ__law_drawn [.val (.int c), .val (.int k)] = some (.ok (.int r) [.val (.int c), .val (.int k)]) ∧ 0 ≤ r := by
  have hk : (k + 1).natAbs < 2 ^ 60 := by
    have := h.lo
    have := h.hi
    omega
  have h1 : mulD (.int c) (.int 6364136223846793005) = some (.int (c * 6364136223846793005)) := mulD_ii (b := 63) h.bits (by decide) (by decide)
  have h2 : mulD (.int (k + 1)) (.int 1442695040888963407) = some (.int ((k + 1) * 1442695040888963407)) := mulD_ii (b := 63) hk (by decide) (by decide)
  generalize hx : (c * 6364136223846793005 + (k + 1) * 1442695040888963407) % 340282366920938463463374607431768211507 = x
  have x0 : 0 ≤ x := by rw [← hx]; exact Int.emod_nonneg _ (by decide)
  have x1 : x < 340282366920938463463374607431768211507 := by rw [← hx]; exact Int.emod_lt_of_pos _ (by decide)
  have xb : x.natAbs < 2 ^ 129 := by omega
  have h3 : mulD (.int x) (.int x) = some (.int (x * x)) := mulD_ii xb xb (by decide)
  generalize hy : x * x % 340282366920938463463374607431768211297 = y
  have y0 : 0 ≤ y := by rw [← hy]; exact Int.emod_nonneg _ (by decide)
  have y1 : y < 340282366920938463463374607431768211297 := by rw [← hy]; exact Int.emod_lt_of_pos _ (by decide)
  have yb : y.natAbs < 2 ^ 129 := by omega
  have a0 : 0 ≤ y % 18446744073709551557 := Int.emod_nonneg _ (by decide)
  have a1 : y % 18446744073709551557 < 18446744073709551557 := Int.emod_lt_of_pos _ (by decide)
  have ab : (y % 18446744073709551557 + 1).natAbs < 2 ^ 65 := by omega
  have b0 : 0 ≤ y / 18446744073709551557 := Int.ediv_nonneg y0 (by decide)
  have bb : (y / 18446744073709551557 + 1).natAbs < 2 ^ 129 := by omega
  have h4 : mulD (.int (y % 18446744073709551557 + 1)) (.int (y / 18446744073709551557 + 1)) = some (.int ((y % 18446744073709551557 + 1) * (y / 18446744073709551557 + 1))) := mulD_ii ab bb (by decide)
  have hp : ((y % 18446744073709551557 + 1) * (y / 18446744073709551557 + 1)).natAbs < 2 ^ 194 := by
    rw [Int.natAbs_mul]
    calc _ < 2 ^ 65 * 2 ^ 129 := Nat.mul_lt_mul'' ab bb
      _ = 2 ^ 194 := by decide
  have h5 : mulD (.int ((y % 18446744073709551557 + 1) * (y / 18446744073709551557 + 1))) (.int y) = some (.int ((y % 18446744073709551557 + 1) * (y / 18446744073709551557 + 1) * y)) := mulD_ii hp yb (by decide)
  refine ⟨(y % 18446744073709551557 + 1) * (y / 18446744073709551557 + 1) * y % 340282366920938463463374607431768211507, ?_, Int.emod_nonneg _ (by decide)⟩
  have e := md_ev h1 h2 (P := 340282366920938463463374607431768211507) (Q := 340282366920938463463374607431768211297) (by decide) (by decide) (by decide) (by decide) hx h3 hy h4 h5
  exact (congrArg (fun m => fnPhi 1 m [.val (.int c), .val (.int k)]) md_eq).trans (phi2 e)
/-- the die rolled -/
theorem roll_big {c k m : Int} (hc : 1000000000000000000 ≤ c) (hm : 0 < m) (h2 : m.natAbs.log2 < 9000) : φ__law_roll [dice c k, .val (.int m)] = some (.ok (.int (c % m)) [dice (c / m) k, .val (.int m)]) := by
  have e1 : geD (.int c) (.int 1000000000000000000) = some (.bool true) := by
    show some (PyData.bool (decide ((1000000000000000000 : Int) ≤ c))) = _
    rw [decide_eq_true hc]
  have e : m__law_roll [dice c k, .val (.int m), .no] = some (.rt (.int (c % m)) [dice (c / m) k, .val (.int m), .val (.int (c % m))]) := by
    unfold m__law_roll
    refine st_seqR (st_ifT (δ1 := [dice c k, .val (.int m), .no]) (ev_test (ev_m2 (ev_ixO rfl rfl) rfl e1)) ?_)
    refine st_seq (st_asg (ev_m2 (ev_ixO rfl rfl) rfl (imodD_ii hm)) rfl) ?_
    refine st_seq (st_setI (ev_m2 (ev_ixO rfl rfl) rfl (idivD_ii hm h2)) rfl rfl) ?_
    exact st_ret rfl
  exact phi2o e
theorem roll_small {n : Nat} {c k m : Int} (hc : ¬ 1000000000000000000 ≤ c) (hm : 0 < m) (h : Dice (n + 1) c k) : ∃ r, φ__law_roll [dice c k, .val (.int m)] = some (.ok (.int r) [dice c (k + 1), .val (.int m)]) ∧ 0 ≤ r ∧ r < m := by
  have hd : Dice n c (k + 1) := ⟨h.bits, by have := h.lo; omega, by have := h.hi; omega⟩
  obtain ⟨r, e0, r0⟩ := drawn_ok hd
  have e1 : geD (.int c) (.int 1000000000000000000) = some (.bool false) := by
    show some (PyData.bool (decide ((1000000000000000000 : Int) ≤ c))) = _
    rw [decide_eq_false hc]
  have e : m__law_roll [dice c k, .val (.int m), .no] = some (.rt (.int (r / 8 % m)) [dice c (k + 1), .val (.int m), .no]) := by
    unfold m__law_roll
    refine st_seq (st_ifF (δ1 := [dice c k, .val (.int m), .no]) (ev_test (ev_m2 (ev_ixO rfl rfl) rfl e1)) rfl) ?_
    refine st_seq (st_setI (ev_m2 (ev_ixO rfl rfl) rfl (addD_ii _ _)) rfl rfl) ?_
    exact st_ret (ev_m2 (ev_m2 (ev_call (ev_cons (ev_ixO rfl rfl) (ev_cons (ev_ixO rfl rfl) rfl)) rfl e0) rfl (idivD_ii (by decide) (by decide))) rfl (imodD_ii hm))
  exact ⟨_, phi2o e, Int.emod_nonneg _ (by omega), Int.emod_lt_of_pos _ hm⟩
theorem Dice.div {n : Nat} {c k m : Int} (h : Dice (n + 1) c k) (hc : 0 ≤ c) (hm : 0 < m) : Dice n (c / m) k := by
  refine ⟨Nat.lt_of_le_of_lt ?_ h.bits, h.lo, by have := h.hi; omega⟩
  have h1 : c / m ≤ c := Int.ediv_le_self _ hc
  have h2 : 0 ≤ c / m := Int.ediv_nonneg hc (by omega)
  omega
theorem roll_ok {n : Nat} {c k m : Int} (hm : 0 < m) (h2 : m.natAbs.log2 < 9000) (h : Dice (n + 1) c k) : ∃ r c' k', φ__law_roll [dice c k, .val (.int m)] = some (.ok (.int r) [dice c' k', .val (.int m)]) ∧ 0 ≤ r ∧ r < m ∧ Dice n c' k' := by
  by_cases hc : 1000000000000000000 ≤ c
  · exact ⟨_, _, _, roll_big hc hm h2, Int.emod_nonneg _ (by omega), Int.emod_lt_of_pos _ hm, h.div (by omega) hm⟩
  · obtain ⟨r, e, r0, r1⟩ := roll_small hc hm h
    exact ⟨r, _, _, e, r0, r1, h.bits, by have := h.lo; omega, by have := h.hi; omega⟩
end K02

namespace K02
open PySem PySem.Spec L2 RH
theorem ev_cval {a : M PyData} {cs : M (List Cv)} {δ δ1 δ2 : List Slot} {x : PyData} {l : List Cv} (h1 : a δ = some (.ok x δ1)) (h2 : cs δ1 = some (.ok l δ2)) : cval a cs δ = some (.ok (.v x :: l) δ2) := by
  simp only [cval, mbind, h1, h2, mpure]
theorem st_par {is : List Nat} {m : M (List Cv)} {δ δ1 δ2 : List Slot} {l : List Cv} (h : m δ = some (.ok l δ1)) (hl : l.length = is.length) (e : putCs is l δ1 = δ2) : spar is m δ = some (.nx δ2) := by
  simp only [spar, sbind, h, hl, if_true, e]
theorem ev_sl {m : M PyData} {lo hi : M (Option Int)} {δ δ1 δ2 δ3 : List Slot} {d z : PyData} {l h : Option Int} (h1 : m δ = some (.ok d δ1)) (h2 : lo δ1 = some (.ok l δ2)) (h3 : hi δ2 = some (.ok h δ3)) (h4 : slD d l h = some z) : msl m lo hi δ = some (.ok z δ3) := by
  simp only [msl, mbind, h1, h2, h3, h4, mlift]
theorem ev_prt {m : M PyData} {δ δ1 : List Slot} {i : Int} (h : m δ = some (.ok (.int i) δ1)) : mprt m δ = some (.ok (some i) δ1) := by
  simp only [mprt, mbind, h, toI, Option.map_some, mlift]
theorem ev_frz {m : M (List PyData)} {δ δ1 : List Slot} {xs : List PyData} (h : m δ = some (.ok xs δ1)) : mfrz m δ = some (.ok (.list xs) δ1) := by
  simp only [mfrz, mbind, h, mpure]
theorem ev_comp {mi : M (List PyData)} {vs : List Nat} {t : Tg} {mt : M Bool} {me : M PyData} {δ δ1 δe : List Slot} {ds ys : List PyData} (h : mi δ = some (.ok ds δ1)) (hl : ds.length ≤ 1000000) (h2 : mcloop vs t mt me ds δ1 = some (ys, δe)) : mcomp mi vs t mt me δ = some (.ok ys (restore δ1 δe vs)) := by
  simp only [mcomp, mcompL, mbind, h, if_pos hl, h2]
theorem mcloop_one {vs : List Nat} {t : Tg} {mt : M Bool} {me : M PyData} {δ δ1 δ2 δ3 : List Slot} {d y : PyData} (h1 : bindT t d (wipeD δ vs) = some δ1) (h2 : mt δ1 = some (.ok true δ2)) (h3 : me δ2 = some (.ok y δ3)) : mcloop vs t mt me [d] δ = some ([y], δ3) := by
  simp only [mcloop, h1, h2, h3]
theorem ev_rng1 {m : M PyData} {δ δ1 : List Slot} {j : Int} (h : m δ = some (.ok (.int j) δ1)) (hj : in62 j = true) : mrange1 m δ = some (.ok (rangeD 0 j.toNat) δ1) := by
  simp only [mrange1, mbind, h, hj, if_true, mlift]
theorem phi1o {m : MS} {k : Nat} {o o' : Own} {d : PyData} {zs : List Slot} (e : m (.own o :: List.replicate k .no) = some (.rt d (.own o' :: zs))) : fnPhi k m [.own o] = some (.ok d [.own o']) := by
  show (match m (.own o :: List.replicate k .no) with
    | none => none
    | some (.nx δ) => some (Out.ok .none (outS _ δ))
    | some (.rt d δ) => some (Out.ok d (outS _ δ))
    | some (.ex c δ) => some (Out.ex c (outS _ δ))) = _
  rw [e]
  rfl
def nA : PyData := .str "ann"
def nB : PyData := .str "bob"
def nC : PyData := .str "cy"
def nD : PyData := .str "dee"
/-- three or four -/
def sz (b : Bool) : Nat := if b then 4 else 3
def folk (b : Bool) : List PyData := if b then [nA, nB, nC, nD] else [nA, nB, nC]
def prs (b : Bool) : List PyData := if b then [.tuple [nA, nB], .tuple [nA, nC], .tuple [nA, nD], .tuple [nB, nC], .tuple [nB, nD], .tuple [nC, nD]] else [.tuple [nA, nB], .tuple [nA, nC], .tuple [nB, nC]]
def aps (b : Bool) : List (List PyData) := [] :: (prs b).map fun p => [p]
def Hs (b : Bool) (r s : Nat) (ap : List PyData) : PyData := .tuple [.tuple (folk b), .int r, .int s, .tuple ap]
theorem roll2 {n : Nat} {c k : Int} (h : Dice (n + 1) c k) : ∃ (b : Bool) (c' k' : Int), φ__law_roll [dice c k, .val (.int 2)] = some (.ok (.int (if b then 1 else 0)) [dice c' k', .val (.int 2)]) ∧ Dice n c' k' := by
  obtain ⟨r, c', k', e, r0, r1, d⟩ := roll_ok (m := 2) (by decide) (by decide) h
  have : r = 0 ∨ r = 1 := by omega
  rcases this with rfl | rfl
  · exact ⟨false, c', k', e, d⟩
  · exact ⟨true, c', k', e, d⟩
theorem h_pairs (b : Bool) : φ__law_pairs [.val (.tuple (folk b))] = some (.ok (.list (prs b)) [.val (.tuple (folk b))]) := by
  cases b
  · kernel_rfl
  · kernel_rfl
theorem ev_roll {i : Nat} {ms : M (List PyData)} {δ δ1 : List Slot} {o0 : Own} {m r c k c' k' : Int} (h0 : δ[i]? = some (.own o0)) (h1 : ms δ = some (.ok [.int m] δ1)) (h2 : δ1[i]? = some (dice c k)) (h3 : φ__law_roll [dice c k, .val (.int m)] = some (.ok (.int r) [dice c' k', .val (.int m)])) : mcallO 2 φ__law_roll i ms δ = some (.ok (.int r) (δ1.set i (dice c' k'))) :=
  ev_callO h0 h1 rfl h2 h3
theorem szl (b : Bool) : (sz b : Int).natAbs.log2 < 9000 := by cases b <;> decide
theorem szp (b : Bool) : (0 : Int) < (sz b : Int) := by cases b <;> decide
theorem prs_len (b : Bool) : lenD [.list (prs b)] = some (.int ((prs b).length : Nat)) := by cases b <;> rfl
theorem atI_nat {α : Type} {xs : List α} {j : Int} (h0 : 0 ≤ j) (h1 : j < xs.length) : ∃ x ∈ xs, atI xs j = some x := by
  have hj : j.toNat < xs.length := by omega
  refine ⟨xs[j.toNat], List.getElem_mem hj, ?_⟩
  unfold atI ixN
  rw [if_pos h0, if_pos h1]
  show xs[j.toNat]? = _
  exact List.getElem?_eq_getElem hj
theorem Dice.le {n : Nat} {c k : Int} (h : Dice (n + 1) c k) : Dice n c k := ⟨h.bits, h.lo, by have := h.hi; omega⟩
theorem any_house {n : Nat} {c k : Int} (h : Dice (n + 6) c k) : ∃ (b : Bool) (r s : Nat) (ap : List PyData) (c' k' : Int), φ__law_any_house [dice c k] = some (.ok (Hs b r s ap) [dice c' k']) ∧ 1 ≤ r ∧ r ≤ sz b ∧ 1 ≤ s ∧ s ≤ sz b ∧ ap ∈ aps b ∧ Dice n c' k' := by
  obtain ⟨b, c1, k1, e1, d1⟩ := roll2 h
  obtain ⟨ri, c2, k2, e2, r0, r1, d2⟩ := roll_ok (szp b) (szl b) d1
  obtain ⟨si, c3, k3, e3, s0, s1, d3⟩ := roll_ok (szp b) (szl b) d2
  obtain ⟨q, c4, k4, e4, d4⟩ := roll2 d3
  obtain ⟨ti, c5, k5, e5, t0, t1, d5⟩ := roll_ok (m := 3) (by decide) (by decide) d4
  have S1 : sasg (.nm 1) (msl (mL mkTup (mcons (mpure (.str "ann")) (mcons (mpure (.str "bob")) (mcons (mpure (.str "cy")) (mcons (mpure (.str "dee")) (mnil)))))) (mnoP) (mprt (m2 addD (mpure (.int 3)) (mcallO 2 φ__law_roll 0 (mcons (mpure (.int 2)) (mnil)))))) (dice c k :: List.replicate 7 .no) = some (.nx [dice c1 k1, .val (.tuple (folk b)), .no, .no, .no, .no, .no, .no]) := by
    cases b
    · exact st_asg (ev_sl rfl rfl (ev_prt (ev_m2 rfl (ev_roll rfl rfl rfl e1) (addD_ii _ _))) rfl) rfl
    · exact st_asg (ev_sl rfl rfl (ev_prt (ev_m2 rfl (ev_roll rfl rfl rfl e1) (addD_ii _ _))) rfl) rfl
  have S2 : sasg (.tp [.nm 2, .nm 3]) (mL mkTup (mcons (mL lenD (mcons (mvar 1) (mnil))) (mcons (mcall 1 φ__law_pairs (mcons (mvar 1) (mnil))) (mnil)))) [dice c1 k1, .val (.tuple (folk b)), .no, .no, .no, .no, .no, .no] = some (.nx [dice c1 k1, .val (.tuple (folk b)), .val (.int (sz b)), .val (.list (prs b)), .no, .no, .no, .no]) := by
    refine st_asg (ev_L (ev_cons (ev_L (ev_cons rfl rfl) (z := .int (sz b)) (by cases b <;> rfl)) (ev_cons (ev_call (ev_cons rfl rfl) rfl (h_pairs b)) rfl)) rfl) rfl
  have S3 : spar [4, 5] (cval (m2 addD (mpure (.int 1)) (mcallO 2 φ__law_roll 0 (mcons (mvar 2) (mnil)))) (cval (m2 addD (mpure (.int 1)) (mcallO 2 φ__law_roll 0 (mcons (mvar 2) (mnil)))) (cnil))) [dice c1 k1, .val (.tuple (folk b)), .val (.int (sz b)), .val (.list (prs b)), .no, .no, .no, .no] = some (.nx [dice c3 k3, .val (.tuple (folk b)), .val (.int (sz b)), .val (.list (prs b)), .val (.int (1 + ri)), .val (.int (1 + si)), .no, .no]) :=
    st_par (ev_cval (ev_m2 rfl (ev_roll rfl rfl rfl e2) (addD_ii _ _)) (ev_cval (ev_m2 rfl (ev_roll rfl rfl rfl e3) (addD_ii _ _)) rfl)) rfl rfl
  have S4 : ∃ r s : Nat, 1 ≤ r ∧ r ≤ sz b ∧ 1 ≤ s ∧ s ≤ sz b ∧ sif (mtest (m2 eqD (mcallO 2 φ__law_roll 0 (mcons (mpure (.int 2)) (mnil))) (mpure (.int 0)))) (spar [4, 5] (cval (mvar 2) (cval (mvar 2) (cnil)))) (snext) [dice c3 k3, .val (.tuple (folk b)), .val (.int (sz b)), .val (.list (prs b)), .val (.int (1 + ri)), .val (.int (1 + si)), .no, .no] = some (.nx [dice c4 k4, .val (.tuple (folk b)), .val (.int (sz b)), .val (.list (prs b)), .val (.int r), .val (.int s), .no, .no]) := by
    have hz : 1 ≤ sz b := by cases b <;> decide
    cases q
    · exact ⟨sz b, sz b, hz, Nat.le_refl _, hz, Nat.le_refl _, st_ifT (ev_test (ev_m2 (ev_roll rfl rfl rfl e4) rfl rfl)) (st_par (ev_cval rfl (ev_cval rfl rfl)) rfl rfl)⟩
    · refine ⟨(1 + ri).toNat, (1 + si).toNat, by omega, by omega, by omega, by omega, ?_⟩
      rw [show (((1 + ri).toNat : Nat) : Int) = 1 + ri by omega, show (((1 + si).toNat : Nat) : Int) = 1 + si by omega]
      exact st_ifF (ev_test (ev_m2 (ev_roll rfl rfl rfl e4) rfl rfl)) rfl
  obtain ⟨r, s, hr1, hr2, hs1, hs2, S4⟩ := S4
  have S5 : ∃ (ap : List PyData) (c' k' : Int) (z : Slot), ap ∈ aps b ∧ Dice n c' k' ∧ sasg (.nm 6) (mfrz (mcomp (mrange1 (m2 idivD (mcallO 2 φ__law_roll 0 (mcons (mpure (.int 3)) (mnil))) (mpure (.int 2)))) [7] (.nm 7) (mtrue) (m2 ixD (mvar 3) (mcallO 2 φ__law_roll 0 (mcons (mL lenD (mcons (mvar 3) (mnil))) (mnil)))))) [dice c4 k4, .val (.tuple (folk b)), .val (.int (sz b)), .val (.list (prs b)), .val (.int r), .val (.int s), .no, .no] = some (.nx [dice c' k', .val (.tuple (folk b)), .val (.int (sz b)), .val (.list (prs b)), .val (.int r), .val (.int s), .val (.list ap), z]) := by
    by_cases ht : ti = 2
    · subst ht
      have hp : (0 : Int) < ((prs b).length : Nat) := by cases b <;> decide
      obtain ⟨j, c6, k6, e6, j0, j1, d6⟩ := roll_ok hp (by cases b <;> decide) d5
      obtain ⟨p, hp1, hp2⟩ := atI_nat j0 j1
      refine ⟨[p], c6, k6, .no, List.mem_cons_of_mem _ (List.mem_map.mpr ⟨p, hp1, rfl⟩), d6, ?_⟩
      have q1 : (mcallO 2 φ__law_roll 0 (mcons (mL lenD (mcons (mvar 3) mnil)) mnil)) [dice c5 k5, .val (.tuple (folk b)), .val (.int (sz b)), .val (.list (prs b)), .val (.int r), .val (.int s), .no, .val (.int (0 + (0 : Nat)))] = some (.ok (.int j) [dice c6 k6, .val (.tuple (folk b)), .val (.int (sz b)), .val (.list (prs b)), .val (.int r), .val (.int s), .no, .val (.int (0 + (0 : Nat)))]) :=
        (ev_roll rfl (ev_cons (ev_L (ev_cons rfl rfl) (prs_len b)) rfl) rfl e6).trans rfl
      have q2 : m2 ixD (mvar 3) (mcallO 2 φ__law_roll 0 (mcons (mL lenD (mcons (mvar 3) mnil)) mnil)) [dice c5 k5, .val (.tuple (folk b)), .val (.int (sz b)), .val (.list (prs b)), .val (.int r), .val (.int s), .no, .val (.int (0 + (0 : Nat)))] = some (.ok p [dice c6 k6, .val (.tuple (folk b)), .val (.int (sz b)), .val (.list (prs b)), .val (.int r), .val (.int s), .no, .val (.int (0 + (0 : Nat)))]) := ev_m2 rfl q1 hp2
      refine st_asg (ev_frz (ev_comp (δ1 := [dice c5 k5, .val (.tuple (folk b)), .val (.int (sz b)), .val (.list (prs b)), .val (.int r), .val (.int s), .no, .no]) (ds := rangeD 0 1) ((ev_rng1 (j := 1) (ev_m2 (ev_roll rfl rfl rfl e5) rfl rfl) rfl).trans rfl) (by decide) (ys := [p]) (δe := [dice c6 k6, .val (.tuple (folk b)), .val (.int (sz b)), .val (.list (prs b)), .val (.int r), .val (.int s), .no, .val (.int (0 + (0 : Nat)))]) ?_)) (by rfl)
      exact mcloop_one rfl rfl q2
    · refine ⟨[], c5, k5, .no, List.mem_cons_self, d5.le, ?_⟩
      have hq : ti / 2 = 0 := by omega
      exact st_asg (ev_frz (ev_comp (δ1 := [dice c5 k5, .val (.tuple (folk b)), .val (.int (sz b)), .val (.list (prs b)), .val (.int r), .val (.int s), .no, .no]) (δe := [dice c5 k5, .val (.tuple (folk b)), .val (.int (sz b)), .val (.list (prs b)), .val (.int r), .val (.int s), .no, .no]) (ds := []) ((ev_rng1 (j := 0) (ev_m2 (ev_roll rfl rfl rfl e5) rfl (by rw [idivD_ii (by decide) (by decide), hq])) rfl).trans rfl) (by decide) rfl)) (by rfl)
  obtain ⟨ap, c', k', z, ha, hd, S5⟩ := S5
  refine ⟨b, r, s, ap, c', k', ?_, hr1, hr2, hs1, hs2, ha, hd⟩
  refine phi1o (zs := [.val (.tuple (folk b)), .val (.int (sz b)), .val (.list (prs b)), .val (.int r), .val (.int s), .val (.list ap), z]) ?_
  unfold m__law_any_house
  refine st_seq S1 (st_seq S2 (st_seq S3 (st_seq S4 (st_seq S5 ?_))))
  refine st_ret (ev_L (ev_cons rfl (ev_cons rfl (ev_cons rfl (ev_cons (ev_L (ev_cons rfl rfl) (z := .tuple ap) ?_) rfl)))) rfl)
  rcases List.mem_cons.mp ha with rfl | ha
  · rfl
  · obtain ⟨p, _, rfl⟩ := List.mem_map.mp ha
    rfl
end K02

namespace K02
open PySem PySem.Spec L2 RH
theorem lay_ints : ∀ ns : List Int, PyData.canLayAll0 (ns.map PyData.int) = true
  | [] => by simp only [List.map_nil, PyData.canLayAll0]
  | n :: r => by
    simp only [List.map_cons, PyData.canLayAll0, PyData.canLay0, Bool.true_and]
    exact lay_ints r
theorem dep_ints : ∀ ns : List Int, PyData.depthAll (ns.map PyData.int) ≤ 1
  | [] => by simp only [List.map_nil, PyData.depthAll]; omega
  | n :: r => by
    have := dep_ints r
    simp only [List.map_cons, PyData.depthAll, PyData.depth]
    omega
theorem shp_ints (ns : List Int) : shp (.list (ns.map PyData.int)) = true := by
  unfold shp
  show (PyData.canLay0 (.list (ns.map PyData.int)) && decide (PyData.depth (.list (ns.map PyData.int)) ≤ 64)) = true
  rw [Bool.and_eq_true]
  refine ⟨by simp only [PyData.canLay0]; exact lay_ints ns, decide_eq_true ?_⟩
  have := dep_ints ns
  simp only [PyData.depth]
  omega
theorem big_of {z t : Int} (h : z.natAbs < 2 ^ 1048576) (ht : t.natAbs < 2 ^ 60) : (z + t).natAbs < 2 ^ BB := by
  have h1 : (2 : Nat) ^ 1048576 ≤ 2 ^ 1048576 := Nat.le_refl _
  have e : (2 : Nat) ^ (1048576 + 1) ≤ 2 ^ BB := pow_mono (by decide)
  have e2 : (2 : Nat) ^ 60 ≤ 2 ^ 1048576 := pow_mono (by decide)
  rw [Nat.pow_succ] at e
  have h3 : (z + t).natAbs ≤ z.natAbs + t.natAbs := Int.natAbs_add_le z t
  generalize (2 : Nat) ^ 1048576 = A at *
  generalize (2 : Nat) ^ 60 = B at *
  generalize (2 : Nat) ^ BB = C at *
  omega
theorem small_of {t : Int} (ht : t.natAbs < 2 ^ 60) : t.natAbs < 2 ^ BB := Nat.lt_of_lt_of_le ht (pow_mono (by decide))
theorem phi0 {m : MS} {a b d : PyData} {δ : List Slot} (e : m [.val a, .val b] = some (.rt d δ)) : fnPhi 0 m [.val a, .val b] = some (.ok d (outS [.val a, .val b] δ)) := by
  show (match m [.val a, .val b] with
    | none => none
    | some (.nx δ) => some (Out.ok .none (outS _ δ))
    | some (.rt d δ) => some (Out.ok d (outS _ δ))
    | some (.ex c δ) => some (Out.ex c (outS _ δ))) = _
  rw [e]
theorem cell_ok {ns : List Int} (hb : ∀ z ∈ ns, Builtin.Int.intBits z ≤ 1048576) (hl : ns.length ≤ 63) {k : Int} (k0 : 0 ≤ k) (k1 : k ≤ 100) : ∃ c ss, φ__law_cell [.val (.list (ns.map PyData.int)), .val (.int k)] = some (.ok (.int c) ss) ∧ c.natAbs < 2 ^ BB := by
  by_cases hn : ns = []
  · subst hn
    have h1 : mulD (.int k) (.int 7919) = some (.int (k * 7919)) := mulD_ii (a := 60) (b := 60) (by omega) (by decide) (by decide)
    refine ⟨k * 7919, _, phi0 (δ := [.val (.list []), .val (.int k)]) ?_, small_of (by omega)⟩
    unfold m__law_cell
    exact st_seqR (st_ifT (ev_test (ev_m2 rfl rfl (z := .bool true) (by kernel_rfl))) (st_ret (ev_m2 rfl rfl h1)))
  · have hlen : 0 < ns.length := List.length_pos_iff.mpr hn
    have e1 : eqD (.list (ns.map PyData.int)) (.list []) = some (.bool false) := by
      unfold eqD
      rw [shp_ints, show shp (.list []) = true by kernel_rfl]
      cases ns with
      | nil => exact absurd rfl hn
      | cons z r => rfl
    have j0 : 0 ≤ k % (ns.length : Nat) := Int.emod_nonneg _ (by omega)
    have j1 : k % (ns.length : Nat) < (ns.length : Nat) := Int.emod_lt_of_pos _ (by omega)
    obtain ⟨x, hx, e2⟩ := atI_nat (xs := ns.map PyData.int) j0 (by rw [List.length_map]; exact j1)
    obtain ⟨z, hz, rfl⟩ := List.mem_map.mp hx
    have hzb : z.natAbs < 2 ^ 1048576 := Nat.lt_of_lt_of_le natAbs_lt_bits (pow_mono (hb z hz))
    have q0 : 0 ≤ k / (ns.length : Nat) := Int.ediv_nonneg k0 (by omega)
    have q1 : k / (ns.length : Nat) ≤ k := Int.ediv_le_self _ k0
    have h1 : mulD (.int (k / (ns.length : Nat))) (.int 104729) = some (.int (k / (ns.length : Nat) * 104729)) := mulD_ii (a := 60) (b := 60) (by omega) (by decide) (by decide)
    have el : lenD [.list (ns.map PyData.int)] = some (.int (ns.length : Nat)) := by
      show some (PyData.int ((ns.map PyData.int).length : Nat)) = _
      rw [List.length_map]
    have hp : (0 : Int) < (ns.length : Nat) := by omega
    have hp2 : ((ns.length : Nat) : Int).natAbs.log2 < 9000 := by
      rw [Int.natAbs_natCast]
      exact Nat.lt_of_le_of_lt (Nat.log2_le_self _) (by omega)
    refine ⟨z + k / (ns.length : Nat) * 104729, _, phi0 (δ := [.val (.list (ns.map PyData.int)), .val (.int k)]) ?_, big_of hzb (by omega)⟩
    unfold m__law_cell
    refine st_seq (st_ifF (ev_test (ev_m2 rfl rfl e1)) rfl) ?_
    exact st_ret (ev_m2 (ev_m2 rfl (ev_m2 rfl (ev_L (ev_cons rfl rfl) el) (imodD_ii hp)) e2) (ev_m2 (ev_m2 rfl (ev_L (ev_cons rfl rfl) el) (idivD_ii hp hp2)) rfl h1) (addD_ii _ _))
def meC : M (List PyData) := mLst (mcons (mcall 2 φ__law_cell (mcons (mvar 0) (mcons (mvar 2) (mnil)))) (mcons (mpure (.int 0)) (mnil)))
theorem loopO_ok {ns : List Int} (hb : ∀ z ∈ ns, Builtin.Int.intBits z ≤ 1048576) (hl : ns.length ≤ 63) {hh : Slot} : ∀ (ds : List PyData), (∀ d ∈ ds, ∃ k : Int, d = .int k ∧ 0 ≤ k ∧ k ≤ 100) → ∀ s2 : Slot,
    ∃ ys δe, mcloopO [2] (.nm 2) meC ds [.val (.list (ns.map PyData.int)), hh, s2] = some (ys, δe) ∧ ∀ y ∈ ys, ∃ c : Int, y = [.int c, .int 0] ∧ c.natAbs < 2 ^ BB
  | [], _, s2 => ⟨[], _, rfl, fun _ h => by simp at h⟩
  | d :: ds, h, s2 => by
    obtain ⟨k, rfl, k0, k1⟩ := h d List.mem_cons_self
    obtain ⟨c, ss, e, hc⟩ := cell_ok hb hl k0 k1
    obtain ⟨ys, δe, e2, h2⟩ := loopO_ok (hh := hh) hb hl ds (fun d hd => h d (List.mem_cons_of_mem _ hd)) (.val (.int k))
    have e3 : meC [.val (.list (ns.map PyData.int)), hh, .val (.int k)] = some (.ok [.int c, .int 0] [.val (.list (ns.map PyData.int)), hh, .val (.int k)]) := by
      have q := ev_cons (ev_call (n := 2) (ev_cons (a := mvar 0) (δ := [.val (.list (ns.map PyData.int)), hh, .val (.int k)]) rfl (ev_cons (a := mvar 2) rfl (ms := mnil) rfl)) rfl e) (ev_cons (a := mpure (.int 0)) rfl (ms := mnil) rfl)
      unfold meC mLst
      simp only [mbind, q]
      rfl
    refine ⟨[.int c, .int 0] :: ys, δe, ?_, fun y hy => ?_⟩
    · show (match bindT (.nm 2) (.int k) (wipeD [.val (.list (ns.map PyData.int)), hh, s2] [2]) with
        | none => none
        | some δ1 => match meC δ1 with
          | some (.ok y δ3) => (match mcloopO [2] (.nm 2) meC ds δ3 with
            | some (ys, δ4) => some (y :: ys, δ4)
            | none => none)
          | _ => none) = _
      rw [show bindT (.nm 2) (.int k) (wipeD [.val (.list (ns.map PyData.int)), hh, s2] [2]) = some [.val (.list (ns.map PyData.int)), hh, .val (.int k)] from rfl]
      simp only [e3, e2]
    · rcases List.mem_cons.mp hy with rfl | hy
      · exact ⟨c, rfl, hc⟩
      · exact h2 y hy
theorem range_mem {n : Nat} {d : PyData} (h : d ∈ rangeD 0 n) : ∃ i : Nat, d = .int i ∧ i < n := by
  unfold rangeD at h
  obtain ⟨i, hi, rfl⟩ := List.mem_map.mp h
  exact ⟨i, by rw [Int.zero_add], List.mem_range.mp hi⟩
theorem rounds_ok {ns : List Int} (hb : ∀ z ∈ ns, Builtin.Int.intBits z ≤ 1048576) (hl : ns.length ≤ 63) {h : Int} (h0 : 0 ≤ h) (h1 : h ≤ 100) : ∃ xss, φ__law_rounds [.val (.list (ns.map PyData.int)), .val (.int h)] = some xss ∧ ∀ xs ∈ xss, ∃ c : Int, xs = [.int c, .int 0] ∧ c.natAbs < 2 ^ BB := by
  have el : lenD [.list (ns.map PyData.int)] = some (.int (ns.length : Nat)) := by
    show some (PyData.int ((ns.map PyData.int).length : Nat)) = _
    rw [List.length_map]
  have q1 : mL maxD' (mcons (mpure (.int 1)) (mcons (mL minD' (mcons (mvar 1) (mcons (mL lenD (mcons (mvar 0) (mnil))) (mnil)))) (mnil))) [.val (.list (ns.map PyData.int)), .val (.int h), .no] = some (.ok (.int (if (if (ns.length : Int) < h then (ns.length : Int) else h) > 1 then (if (ns.length : Int) < h then (ns.length : Int) else h) else 1)) [.val (.list (ns.map PyData.int)), .val (.int h), .no]) :=
    ev_L (ev_cons rfl (ev_cons (ev_L (ev_cons rfl (ev_cons (ev_L (ev_cons rfl rfl) el) rfl)) rfl) rfl)) rfl
  generalize hj : (if (if (ns.length : Int) < h then (ns.length : Int) else h) > 1 then (if (ns.length : Int) < h then (ns.length : Int) else h) else 1) = j at q1
  have jb : 0 ≤ j ∧ j ≤ 100 := by
    rw [← hj]
    split <;> split <;> omega
  have q2 := ev_rng1 q1 (by
    unfold in62
    rw [Bool.and_eq_true]
    exact ⟨decide_eq_true (by omega), decide_eq_true (by omega)⟩)
  obtain ⟨ys, δe, e2, hy⟩ := loopO_ok (hh := .val (.int h)) hb hl (rangeD 0 j.toNat) (fun d hd => by
    obtain ⟨i, rfl, hi⟩ := range_mem hd
    exact ⟨_, rfl, by omega, by omega⟩) .no
  refine ⟨ys, ?_, hy⟩
  have hl2 : (rangeD 0 j.toNat).length ≤ 1000000 := by
    unfold rangeD
    rw [List.length_map, List.length_range]
    omega
  show (match m__law_rounds [.val (.list (ns.map PyData.int)), .val (.int h), .no] with
    | some (.ok xss _) => some xss
    | _ => none) = _
  unfold m__law_rounds mcompO
  simp only [mbind, q2]
  unfold mcompLO
  rw [if_pos hl2]
  have e2' := e2
  unfold meC at e2'
  rw [e2']
end K02

namespace K02
open PySem PySem.Spec L2 RH
mutual
def deq : PyData → PyData → Bool
  | .none, .none => true
  | .bool a, .bool b => decide (a = b)
  | .int a, .int b => decide (a = b)
  | .str a, .str b => decide (a = b)
  | .list a, .list b => deqs a b
  | .tuple a, .tuple b => deqs a b
  | _, _ => false
def deqs : List PyData → List PyData → Bool
  | [], [] => true
  | x :: xs, y :: ys => deq x y && deqs xs ys
  | _, _ => false
end
mutual
theorem deq_eq : ∀ {a b : PyData}, deq a b = true → a = b
  | .none, .none, _ => rfl
  | .bool a, .bool b, h => by simp only [deq] at h; rw [of_decide_eq_true h]
  | .int a, .int b, h => by simp only [deq] at h; rw [of_decide_eq_true h]
  | .str a, .str b, h => by simp only [deq] at h; rw [of_decide_eq_true h]
  | .list a, .list b, h => by simp only [deq] at h; rw [deqs_eq h]
  | .tuple a, .tuple b, h => by simp only [deq] at h; rw [deqs_eq h]
  | .none, .bool _, h | .none, .int _, h | .none, .str _, h | .none, .list _, h | .none, .tuple _, h | .none, .dict _, h => by simp [deq] at h
  | .bool _, .none, h | .bool _, .int _, h | .bool _, .str _, h | .bool _, .list _, h | .bool _, .tuple _, h | .bool _, .dict _, h => by simp [deq] at h
  | .int _, .none, h | .int _, .bool _, h | .int _, .str _, h | .int _, .list _, h | .int _, .tuple _, h | .int _, .dict _, h => by simp [deq] at h
  | .str _, .none, h | .str _, .bool _, h | .str _, .int _, h | .str _, .list _, h | .str _, .tuple _, h | .str _, .dict _, h => by simp [deq] at h
  | .list _, .none, h | .list _, .bool _, h | .list _, .int _, h | .list _, .str _, h | .list _, .tuple _, h | .list _, .dict _, h => by simp [deq] at h
  | .tuple _, .none, h | .tuple _, .bool _, h | .tuple _, .int _, h | .tuple _, .str _, h | .tuple _, .list _, h | .tuple _, .dict _, h => by simp [deq] at h
  | .dict _, _, h => by simp [deq] at h
theorem deqs_eq : ∀ {a b : List PyData}, deqs a b = true → a = b
  | [], [], _ => rfl
  | x :: xs, y :: ys, h => by
    simp only [deqs, Bool.and_eq_true] at h
    rw [deq_eq h.1, deqs_eq h.2]
  | [], _ :: _, h => by simp [deqs] at h
  | _ :: _, [], h => by simp [deqs] at h
end
def okOut (o : Option Out) (d h : PyData) : Bool := match o with
  | some (.ok d' [.val h']) => deq d' d && deq h' h
  | _ => false
theorem okOut_eq {o : Option Out} {d h : PyData} (e : okOut o d h = true) : o = some (.ok d [.val h]) := by
  unfold okOut at e
  split at e
  · rw [Bool.and_eq_true] at e
    rw [deq_eq e.1, deq_eq e.2]
  · cases e
def base3 : List (List (List PyData)) := [[[nA], [nB], [nC]], [[nA], [nB, nC]], [[nA, nB], [nC]], [[nA, nB, nC]], [[nA, nC], [nB]]]
def base4 : List (List (List PyData)) := [[[nA], [nB], [nC], [nD]], [[nA], [nB], [nC, nD]], [[nA], [nB, nC], [nD]], [[nA], [nB, nC, nD]], [[nA], [nB, nD], [nC]], [[nA, nB], [nC], [nD]], [[nA, nB], [nC, nD]], [[nA, nB, nC], [nD]], [[nA, nB, nC, nD]], [[nA, nB, nD], [nC]], [[nA, nC], [nB], [nD]], [[nA, nC], [nB, nD]], [[nA, nC, nD], [nB]], [[nA, nD], [nB], [nC]], [[nA, nD], [nB, nC]]]
def base (b : Bool) : List (List (List PyData)) := if b then base4 else base3
def has (g : List PyData) (x : PyData) : Bool := g.any fun y => deq x y
def sepr (gs : List (List PyData)) : PyData → Bool
  | .tuple [x, y] => gs.all fun g => !(has g x && has g y)
  | _ => false
def letB (r s : Nat) (ap : List PyData) (gs : List (List PyData)) : Bool := decide (gs.length ≤ r) && gs.all (fun g => decide (g.length ≤ s)) && ap.all (sepr gs)
def seatT (gs : List (List PyData)) : PyData := .tuple (gs.map .tuple)
def Sl (b : Bool) (r s : Nat) (ap : List PyData) : List PyData := ((base b).filter (letB r s ap)).map seatT
def overH (b : Bool) (f : Nat → Nat → List PyData → Bool) : Bool := (aps b).all fun ap => (List.range (sz b)).all fun r => (List.range (sz b)).all fun s => f (r + 1) (s + 1) ap
theorem overH_at {b : Bool} {f : Nat → Nat → List PyData → Bool} (h : overH b f = true) {r s : Nat} {ap : List PyData} (r1 : 1 ≤ r) (r2 : r ≤ sz b) (s1 : 1 ≤ s) (s2 : s ≤ sz b) (ha : ap ∈ aps b) : f r s ap = true := by
  have h1 := List.all_eq_true.mp h ap ha
  have h2 := List.all_eq_true.mp h1 (r - 1) (List.mem_range.mpr (by omega))
  have h3 := List.all_eq_true.mp h2 (s - 1) (List.mem_range.mpr (by omega))
  rw [show r - 1 + 1 = r by omega, show s - 1 + 1 = s by omega] at h3
  exact h3
def chkH (b : Bool) : Bool := overH b fun r s ap => okOut (φ_need_house [.val (Hs b r s ap)]) .none (Hs b r s ap)
def apI (b : Bool) (i : Nat) : List PyData := (aps b).getD i []
def chkA (b : Bool) (i : Nat) : Bool := (List.range (sz b)).all fun r => (List.range (sz b)).all fun s => okOut (φ_all_seatings [.val (Hs b (r + 1) (s + 1) (apI b i))]) (.list (Sl b (r + 1) (s + 1) (apI b i))) (Hs b (r + 1) (s + 1) (apI b i))
def chkR (b : Bool) (i r : Nat) : Bool := (List.range (sz b)).all fun s => okOut (φ__law_all_seatings [.val (Hs b (r + 1) (s + 1) (apI b i))]) (.list (Sl b (r + 1) (s + 1) (apI b i))) (Hs b (r + 1) (s + 1) (apI b i))
theorem chkH3 : chkH false = true := by kernel_rfl
theorem chkH4 : chkH true = true := by kernel_rfl
theorem chkA_false_0 : chkA false 0 = true := by kernel_rfl
theorem chkA_false_1 : chkA false 1 = true := by kernel_rfl
theorem chkA_false_2 : chkA false 2 = true := by kernel_rfl
theorem chkA_false_3 : chkA false 3 = true := by kernel_rfl
theorem chkR_false_0_0 : chkR false 0 0 = true := by kernel_rfl
theorem chkR_false_0_1 : chkR false 0 1 = true := by kernel_rfl
theorem chkR_false_0_2 : chkR false 0 2 = true := by kernel_rfl
theorem chkR_false_1_0 : chkR false 1 0 = true := by kernel_rfl
theorem chkR_false_1_1 : chkR false 1 1 = true := by kernel_rfl
theorem chkR_false_1_2 : chkR false 1 2 = true := by kernel_rfl
theorem chkR_false_2_0 : chkR false 2 0 = true := by kernel_rfl
theorem chkR_false_2_1 : chkR false 2 1 = true := by kernel_rfl
theorem chkR_false_2_2 : chkR false 2 2 = true := by kernel_rfl
theorem chkR_false_3_0 : chkR false 3 0 = true := by kernel_rfl
theorem chkR_false_3_1 : chkR false 3 1 = true := by kernel_rfl
theorem chkR_false_3_2 : chkR false 3 2 = true := by kernel_rfl
theorem allA_false : ∀ i : Nat, i < 4 → chkA false i = true
  | 0, _ => chkA_false_0
  | 1, _ => chkA_false_1
  | 2, _ => chkA_false_2
  | 3, _ => chkA_false_3
  | i + 4, h => absurd h (by omega)
theorem allR_false : ∀ i r : Nat, i < 4 → r < 3 → chkR false i r = true
  | 0, 0, _, _ => chkR_false_0_0
  | 0, 1, _, _ => chkR_false_0_1
  | 0, 2, _, _ => chkR_false_0_2
  | 1, 0, _, _ => chkR_false_1_0
  | 1, 1, _, _ => chkR_false_1_1
  | 1, 2, _, _ => chkR_false_1_2
  | 2, 0, _, _ => chkR_false_2_0
  | 2, 1, _, _ => chkR_false_2_1
  | 2, 2, _, _ => chkR_false_2_2
  | 3, 0, _, _ => chkR_false_3_0
  | 3, 1, _, _ => chkR_false_3_1
  | 3, 2, _, _ => chkR_false_3_2
  | i + 4, _, h, _ => absurd h (by omega)
  | _, r + 3, _, h => absurd h (by omega)
theorem chkA_true_0 : chkA true 0 = true := by kernel_rfl
theorem chkA_true_1 : chkA true 1 = true := by kernel_rfl
theorem chkA_true_2 : chkA true 2 = true := by kernel_rfl
theorem chkA_true_3 : chkA true 3 = true := by kernel_rfl
theorem chkA_true_4 : chkA true 4 = true := by kernel_rfl
theorem chkA_true_5 : chkA true 5 = true := by kernel_rfl
theorem chkA_true_6 : chkA true 6 = true := by kernel_rfl
theorem chkR_true_0_0 : chkR true 0 0 = true := by kernel_rfl
theorem chkR_true_0_1 : chkR true 0 1 = true := by kernel_rfl
theorem chkR_true_0_2 : chkR true 0 2 = true := by kernel_rfl
theorem chkR_true_0_3 : chkR true 0 3 = true := by kernel_rfl
theorem chkR_true_1_0 : chkR true 1 0 = true := by kernel_rfl
theorem chkR_true_1_1 : chkR true 1 1 = true := by kernel_rfl
theorem chkR_true_1_2 : chkR true 1 2 = true := by kernel_rfl
theorem chkR_true_1_3 : chkR true 1 3 = true := by kernel_rfl
theorem chkR_true_2_0 : chkR true 2 0 = true := by kernel_rfl
theorem chkR_true_2_1 : chkR true 2 1 = true := by kernel_rfl
theorem chkR_true_2_2 : chkR true 2 2 = true := by kernel_rfl
theorem chkR_true_2_3 : chkR true 2 3 = true := by kernel_rfl
theorem chkR_true_3_0 : chkR true 3 0 = true := by kernel_rfl
theorem chkR_true_3_1 : chkR true 3 1 = true := by kernel_rfl
theorem chkR_true_3_2 : chkR true 3 2 = true := by kernel_rfl
theorem chkR_true_3_3 : chkR true 3 3 = true := by kernel_rfl
theorem chkR_true_4_0 : chkR true 4 0 = true := by kernel_rfl
theorem chkR_true_4_1 : chkR true 4 1 = true := by kernel_rfl
theorem chkR_true_4_2 : chkR true 4 2 = true := by kernel_rfl
theorem chkR_true_4_3 : chkR true 4 3 = true := by kernel_rfl
theorem chkR_true_5_0 : chkR true 5 0 = true := by kernel_rfl
theorem chkR_true_5_1 : chkR true 5 1 = true := by kernel_rfl
theorem chkR_true_5_2 : chkR true 5 2 = true := by kernel_rfl
theorem chkR_true_5_3 : chkR true 5 3 = true := by kernel_rfl
theorem chkR_true_6_0 : chkR true 6 0 = true := by kernel_rfl
theorem chkR_true_6_1 : chkR true 6 1 = true := by kernel_rfl
theorem chkR_true_6_2 : chkR true 6 2 = true := by kernel_rfl
theorem chkR_true_6_3 : chkR true 6 3 = true := by kernel_rfl
theorem allA_true : ∀ i : Nat, i < 7 → chkA true i = true
  | 0, _ => chkA_true_0
  | 1, _ => chkA_true_1
  | 2, _ => chkA_true_2
  | 3, _ => chkA_true_3
  | 4, _ => chkA_true_4
  | 5, _ => chkA_true_5
  | 6, _ => chkA_true_6
  | i + 7, h => absurd h (by omega)
theorem allR_true : ∀ i r : Nat, i < 7 → r < 4 → chkR true i r = true
  | 0, 0, _, _ => chkR_true_0_0
  | 0, 1, _, _ => chkR_true_0_1
  | 0, 2, _, _ => chkR_true_0_2
  | 0, 3, _, _ => chkR_true_0_3
  | 1, 0, _, _ => chkR_true_1_0
  | 1, 1, _, _ => chkR_true_1_1
  | 1, 2, _, _ => chkR_true_1_2
  | 1, 3, _, _ => chkR_true_1_3
  | 2, 0, _, _ => chkR_true_2_0
  | 2, 1, _, _ => chkR_true_2_1
  | 2, 2, _, _ => chkR_true_2_2
  | 2, 3, _, _ => chkR_true_2_3
  | 3, 0, _, _ => chkR_true_3_0
  | 3, 1, _, _ => chkR_true_3_1
  | 3, 2, _, _ => chkR_true_3_2
  | 3, 3, _, _ => chkR_true_3_3
  | 4, 0, _, _ => chkR_true_4_0
  | 4, 1, _, _ => chkR_true_4_1
  | 4, 2, _, _ => chkR_true_4_2
  | 4, 3, _, _ => chkR_true_4_3
  | 5, 0, _, _ => chkR_true_5_0
  | 5, 1, _, _ => chkR_true_5_1
  | 5, 2, _, _ => chkR_true_5_2
  | 5, 3, _, _ => chkR_true_5_3
  | 6, 0, _, _ => chkR_true_6_0
  | 6, 1, _, _ => chkR_true_6_1
  | 6, 2, _, _ => chkR_true_6_2
  | 6, 3, _, _ => chkR_true_6_3
  | i + 7, _, h, _ => absurd h (by omega)
  | _, r + 4, _, h => absurd h (by omega)
theorem allA (b : Bool) (i : Nat) (h : i < (aps b).length) : chkA b i = true := by
  cases b
  · exact allA_false i h
  · exact allA_true i h
theorem allR (b : Bool) (i r : Nat) (h : i < (aps b).length) (hr : r < sz b) : chkR b i r = true := by
  cases b
  · exact allR_false i r h hr
  · exact allR_true i r h hr
theorem chkH_t (b : Bool) : chkH b = true := by
  cases b
  · exact chkH3
  · exact chkH4
end K02

namespace K02
open PySem PySem.Spec L2 RH
/-- a house of the law's, its seatings S -/
structure House (h : PyData) (S : List PyData) : Prop where
  all : φ_all_seatings [.val h] = some (.ok (.list S) [.val h])
  lawAll : φ__law_all_seatings [.val h] = some (.ok (.list S) [.val h])
  need : φ_need_house [.val h] = some (.ok .none [.val h])
theorem all_i (b : Bool) : ∀ ap ∈ aps b, ∃ i, i < (aps b).length ∧ (aps b).getD i [] = ap := fun ap h => by
  obtain ⟨i, hi, e⟩ := List.getElem_of_mem h
  exact ⟨i, hi, by rw [List.getD_eq_getElem?_getD, List.getElem?_eq_getElem hi, e]; rfl⟩
theorem house_ok {b : Bool} {r s : Nat} {ap : List PyData} (r1 : 1 ≤ r) (r2 : r ≤ sz b) (s1 : 1 ≤ s) (s2 : s ≤ sz b) (ha : ap ∈ aps b) : House (Hs b r s ap) (Sl b r s ap) := by
  obtain ⟨i, hi, rfl⟩ := all_i b ap ha
  have hA := List.all_eq_true.mp (List.all_eq_true.mp (allA b i hi) (r - 1) (List.mem_range.mpr (by omega))) (s - 1) (List.mem_range.mpr (by omega))
  have hR := List.all_eq_true.mp (allR b i (r - 1) hi (by omega)) (s - 1) (List.mem_range.mpr (by omega))
  have hH := overH_at (chkH_t b) r1 r2 s1 s2 ha
  rw [show r - 1 + 1 = r by omega, show s - 1 + 1 = s by omega] at hA hR
  exact ⟨okOut_eq hA, okOut_eq hR, okOut_eq hH⟩
theorem phi1 {m : MS} {k : Nat} {a d : PyData} {δ : List Slot} (e : m (.val a :: List.replicate k .no) = some (.rt d δ)) : fnPhi k m [.val a] = some (.ok d [.val a]) := by
  show (match m (.val a :: List.replicate k .no) with
    | none => none
    | some (.nx δ) => some (Out.ok .none (outS _ δ))
    | some (.rt d δ) => some (Out.ok d (outS _ δ))
    | some (.ex c δ) => some (Out.ex c (outS _ δ))) = _
  rw [e]
  cases δ <;> rfl
theorem phi2k {m : MS} {k : Nat} {a b d : PyData} {δ : List Slot} (e : m (.val a :: .val b :: List.replicate k .no) = some (.rt d δ)) : fnPhi k m [.val a, .val b] = some (.ok d [.val a, .val b]) := by
  show (match m (.val a :: .val b :: List.replicate k .no) with
    | none => none
    | some (.nx δ) => some (Out.ok .none (outS _ δ))
    | some (.rt d δ) => some (Out.ok d (outS _ δ))
    | some (.ex c δ) => some (Out.ex c (outS _ δ))) = _
  rw [e]
  cases δ with
  | nil => rfl
  | cons x r => cases r <;> rfl
theorem phi2n {m : MS} {k : Nat} {a b : PyData} {δ : List Slot} (e : m (.val a :: .val b :: List.replicate k .no) = some (.nx δ)) : fnPhi k m [.val a, .val b] = some (.ok .none [.val a, .val b]) := by
  show (match m (.val a :: .val b :: List.replicate k .no) with
    | none => none
    | some (.nx δ) => some (Out.ok .none (outS _ δ))
    | some (.rt d δ) => some (Out.ok d (outS _ δ))
    | some (.ex c δ) => some (Out.ex c (outS _ δ))) = _
  rw [e]
  cases δ with
  | nil => rfl
  | cons x r => cases r <;> rfl
theorem phi2x {m : MS} {k c : Nat} {a b : PyData} {δ : List Slot} (e : m (.val a :: .val b :: List.replicate k .no) = some (.ex c δ)) : fnPhi k m [.val a, .val b] = some (.ex c [.val a, .val b]) := by
  show (match m (.val a :: .val b :: List.replicate k .no) with
    | none => none
    | some (.nx δ) => some (Out.ok .none (outS _ δ))
    | some (.rt d δ) => some (Out.ok d (outS _ δ))
    | some (.ex c δ) => some (Out.ex c (outS _ δ))) = _
  rw [e]
  cases δ with
  | nil => rfl
  | cons x r => cases r <;> rfl
theorem ev_andT {a b : M PyData} {δ δ1 : List Slot} {r : Option (Res PyData)} (h1 : a δ = some (.ok (.bool true) δ1)) (h2 : b δ1 = r) : mandV a b δ = r := by
  simp only [mandV, mbind, h1, asB, mlift, if_true, h2]
theorem ev_andF {a b : M PyData} {δ δ1 : List Slot} (h1 : a δ = some (.ok (.bool false) δ1)) : mandV a b δ = some (.ok (.bool false) δ1) := by
  simp only [mandV, mbind, h1, asB, mlift, Bool.false_eq_true, if_false, mpure]
def nmsM : M PyData := mL allD (mcons (mfrz (mcomp (msrc (mvar 1)) [2] (.nm 2) (mtrue) (mcall 1 φ_are_names (mcons (mvar 2) (mnil))))) (mnil))
/-- is the thing a tuple of tuples of names; what the test of being in S says -/
structure Thing (T : PyData) (g : Bool) : Prop where
  ok : ∀ h : PyData, (PyData.isTuple T = false ∧ g = false) ∨ (PyData.isTuple T = true ∧ nmsM [.val h, .val T, .no] = some (.ok (.bool g) [.val h, .val T, .no]))
theorem good_ev {h T : PyData} {S : List PyData} {g q : Bool} (H : House h S) (t : Thing T g) (hq : g = true → inD T (.list S) = some (.bool q)) : φ_is_good_seating [.val h, .val T] = some (.ok (.bool (g && q)) [.val h, .val T]) := by
  refine phi2k (k := 1) (δ := [.val h, .val T, .no]) ?_
  rcases t.ok h with ⟨e, rfl⟩ | ⟨e, e2⟩
  · refine st_ret (ev_andF (δ1 := [.val h, .val T, .no]) ?_)
    show some (Res.ok (PyData.bool (PyData.isTuple T)) [Slot.val h, .val T, .no]) = _
    rw [e]
  · refine st_ret (ev_andT (δ1 := [.val h, .val T, .no]) (r := some (.ok (.bool (g && q)) [.val h, .val T, .no])) ?_ ?_)
    · show some (Res.ok (PyData.bool (PyData.isTuple T)) [Slot.val h, .val T, .no]) = _
      rw [e]
    · cases g with
      | false => exact ev_andF e2
      | true => exact ev_andT e2 (ev_m2 rfl (ev_call (ev_cons rfl rfl) rfl H.all) (hq rfl))
theorem isSeat_ev {h T : PyData} {S : List PyData} {g q : Bool} (H : House h S) (t : Thing T g) (hq : g = true → inD T (.list S) = some (.bool q)) : φ_is_seating [.val h, .val T] = some (.ok (.bool (g && q)) [.val h, .val T]) := by
  refine phi2k (k := 0) (δ := [.val h, .val T]) ?_
  unfold m_is_seating
  exact st_seq (st_expr (ev_call (ev_cons rfl rfl) rfl H.need)) (st_ret (ev_call (ev_cons rfl (ev_cons rfl rfl)) rfl (good_ev H t hq)))
theorem needSeat_no {h T : PyData} {S : List PyData} {g q : Bool} (H : House h S) (t : Thing T g) (hq : g = true → inD T (.list S) = some (.bool q)) (hf : (g && q) = false) : φ_need_seating [.val h, .val T] = some (.ex 3 [.val h, .val T]) := by
  refine phi2x (k := 0) (δ := [.val h, .val T]) ?_
  unfold m_need_seating
  have e := good_ev H t hq
  rw [hf] at e
  exact st_ifT (ev_not (k := false) (ev_test (ev_call (ev_cons rfl (ev_cons rfl rfl)) rfl e))) rfl
theorem needSeat_yes {h T : PyData} {S : List PyData} {g q : Bool} (H : House h S) (t : Thing T g) (hq : g = true → inD T (.list S) = some (.bool q)) (hf : (g && q) = true) : φ_need_seating [.val h, .val T] = some (.ok .none [.val h, .val T]) := by
  refine phi2n (k := 0) (δ := [.val h, .val T]) ?_
  unfold m_need_seating
  have e := good_ev H t hq
  rw [hf] at e
  exact st_ifF (ev_not (k := true) (ev_test (ev_call (ev_cons rfl (ev_cons rfl rfl)) rfl e))) rfl
end K02

namespace K02
open PySem PySem.Spec L2 RH
theorem outS_vals : ∀ (as : List PyData) (δ : List Slot), outS (as.map .val) δ = as.map .val
  | [], _ => rfl
  | a :: as, [] => by
    show Slot.val a :: outS (as.map .val) [] = _
    rw [outS_vals as []]
    rfl
  | a :: as, s :: δ => by
    show outS1 (.val a) (some s) :: outS (as.map .val) δ = _
    rw [outS_vals as δ]
    rfl
theorem phiV_rt {m : MS} {k : Nat} {as : List PyData} {d : PyData} {δ : List Slot} (e : m (as.map .val ++ List.replicate k .no) = some (.rt d δ)) : fnPhi k m (as.map .val) = some (.ok d (as.map .val)) := by
  unfold fnPhi
  rw [e]
  show some (Out.ok d (outS (as.map .val) δ)) = _
  rw [outS_vals]
theorem phiV_nx {m : MS} {k : Nat} {as : List PyData} {δ : List Slot} (e : m (as.map .val ++ List.replicate k .no) = some (.nx δ)) : fnPhi k m (as.map .val) = some (.ok .none (as.map .val)) := by
  unfold fnPhi
  rw [e]
  show some (Out.ok .none (outS (as.map .val) δ)) = _
  rw [outS_vals]
theorem phiV_ex {m : MS} {k c : Nat} {as : List PyData} {δ : List Slot} (e : m (as.map .val ++ List.replicate k .no) = some (.ex c δ)) : fnPhi k m (as.map .val) = some (.ex c (as.map .val)) := by
  unfold fnPhi
  rw [e]
  show some (Out.ex c (outS (as.map .val) δ)) = _
  rw [outS_vals]
theorem together_no {h T a b : PyData} (n : φ_need_house [.val h] = some (.ok .none [.val h])) (e : φ_need_seating [.val h, .val T] = some (.ex 3 [.val h, .val T])) : φ_together [.val h, .val T, .val a, .val b] = some (.ex 3 [.val h, .val T, .val a, .val b]) := by
  refine phiV_ex (as := [h, T, a, b]) (k := 0) (δ := [.val h, .val T, .val a, .val b]) ?_
  unfold m_together
  exact st_seq (st_expr (ev_call (ev_cons rfl rfl) rfl n)) (st_seqX (st_exprX (ev_callX (ev_cons rfl (ev_cons rfl rfl)) rfl e)))
theorem together_n1 {h T a b : PyData} (n : φ_need_house [.val h] = some (.ok .none [.val h])) (e : φ_need_seating [.val h, .val T] = some (.ok .none [.val h, .val T])) (e1 : φ_need_name [.val h, .val a] = some (.ex 2 [.val h, .val a])) : φ_together [.val h, .val T, .val a, .val b] = some (.ex 2 [.val h, .val T, .val a, .val b]) := by
  refine phiV_ex (as := [h, T, a, b]) (k := 0) (δ := [.val h, .val T, .val a, .val b]) ?_
  unfold m_together
  exact st_seq (st_expr (ev_call (ev_cons rfl rfl) rfl n)) (st_seq (st_expr (ev_call (ev_cons rfl (ev_cons rfl rfl)) rfl e)) (st_seqX (st_exprX (ev_callX (ev_cons rfl (ev_cons rfl rfl)) rfl e1))))
theorem together_n2 {h T a b : PyData} (n : φ_need_house [.val h] = some (.ok .none [.val h])) (e : φ_need_seating [.val h, .val T] = some (.ok .none [.val h, .val T])) (e1 : φ_need_name [.val h, .val a] = some (.ok .none [.val h, .val a])) (e2 : φ_need_name [.val h, .val b] = some (.ex 2 [.val h, .val b])) :
    φ_together [.val h, .val T, .val a, .val b] = some (.ex 2 [.val h, .val T, .val a, .val b]) := by
  refine phiV_ex (as := [h, T, a, b]) (k := 0) (δ := [.val h, .val T, .val a, .val b]) ?_
  unfold m_together
  exact st_seq (st_expr (ev_call (ev_cons rfl rfl) rfl n)) (st_seq (st_expr (ev_call (ev_cons rfl (ev_cons rfl rfl)) rfl e)) (st_seq (st_expr (ev_call (ev_cons rfl (ev_cons rfl rfl)) rfl e1)) (st_seqX (st_exprX (ev_callX (ev_cons rfl (ev_cons rfl rfl)) rfl e2)))))
theorem together_ok {h T a b d : PyData} {ss : List Slot} (n : φ_need_house [.val h] = some (.ok .none [.val h])) (e : φ_need_seating [.val h, .val T] = some (.ok .none [.val h, .val T])) (e1 : φ_need_name [.val h, .val a] = some (.ok .none [.val h, .val a])) (e2 : φ_need_name [.val h, .val b] = some (.ok .none [.val h, .val b]))
    (e3 : φ_do_sit [.val T, .val (.tuple [a, b])] = some (.ok d ss)) : φ_together [.val h, .val T, .val a, .val b] = some (.ok d [.val h, .val T, .val a, .val b]) := by
  refine phiV_rt (as := [h, T, a, b]) (k := 0) (δ := [.val h, .val T, .val a, .val b]) ?_
  unfold m_together
  exact st_seq (st_expr (ev_call (ev_cons rfl rfl) rfl n)) (st_seq (st_expr (ev_call (ev_cons rfl (ev_cons rfl rfl)) rfl e)) (st_seq (st_expr (ev_call (ev_cons rfl (ev_cons rfl rfl)) rfl e1)) (st_seq (st_expr (ev_call (ev_cons rfl (ev_cons rfl rfl)) rfl e2))
    (st_ret (ev_call (ev_cons rfl (ev_cons (ev_L (ev_cons rfl (ev_cons rfl rfl)) rfl) rfl)) rfl e3)))))
theorem text_no {h T : PyData} (n : φ_need_house [.val h] = some (.ok .none [.val h])) (e : φ_need_seating [.val h, .val T] = some (.ex 3 [.val h, .val T])) : φ_seating_text [.val h, .val T] = some (.ex 3 [.val h, .val T]) := by
  refine phiV_ex (as := [h, T]) (k := 0) (δ := [.val h, .val T]) ?_
  unfold m_seating_text
  exact st_seq (st_expr (ev_call (ev_cons rfl rfl) rfl n)) (st_seqX (st_exprX (ev_callX (ev_cons rfl (ev_cons rfl rfl)) rfl e)))
theorem name_ok (b : Bool) (r s : Nat) (ap : List PyData) : ∀ x ∈ folk b, φ_need_name [.val (Hs b r s ap), .val x] = some (.ok .none [.val (Hs b r s ap), .val x]) := by
  intro x hx
  cases b
  · rcases (by simpa [folk] using hx : x = nA ∨ x = nB ∨ x = nC) with rfl | rfl | rfl <;> kernel_rfl
  · rcases (by simpa [folk] using hx : x = nA ∨ x = nB ∨ x = nC ∨ x = nD) with rfl | rfl | rfl | rfl <;> kernel_rfl
def badNames : List PyData := [.none, .int 5, .str "zed", .tuple [nA]]
theorem name_no (b : Bool) (r s : Nat) (ap : List PyData) : ∀ x ∈ badNames, φ_need_name [.val (Hs b r s ap), .val x] = some (.ex 2 [.val (Hs b r s ap), .val x]) := by
  intro x hx
  rcases (by simpa [badNames] using hx : x = .none ∨ x = .int 5 ∨ x = .str "zed" ∨ x = .tuple [nA]) with rfl | rfl | rfl | rfl <;> cases b <;> kernel_rfl
theorem term2 : φ__law_term 2 = some (.tuple [.str "refused", .str "BadName"]) := by kernel_rfl
theorem term3 : φ__law_term 3 = some (.tuple [.str "refused", .str "BadSeating"]) := by kernel_rfl
end K02

namespace K02
open PySem PySem.Spec L2 RH
def variants (gs : List (List PyData)) : List PyData :=
  [.tuple (gs.tail.map .tuple), .tuple (gs.map .tuple ++ (gs.take 1).map .tuple), .tuple (gs.reverse.map .tuple), .list (gs.map .tuple), .tuple (gs.dropLast.map .tuple ++ [.tuple []]), .tuple (gs.dropLast.map .tuple ++ [.list (gs.getLastD [])])]
/-- good: a tuple of tuples of names -/
def goodB : PyData → Bool
  | .tuple xs => xs.all fun x => match x with
    | .tuple ys => ys.all fun y => PyData.isStr y
    | _ => false
  | _ => false
def okIn (S : List PyData) (T : PyData) : Bool := match inD T (.list S) with
  | some (.bool q) => goodB T || !q
  | _ => false
def chkV (b : Bool) (i : Nat) : Bool := (List.range (sz b)).all fun r => (List.range (sz b)).all fun s => (base b).all fun g => (seatT g :: variants g).all (okIn (Sl b (r + 1) (s + 1) (apI b i)))
theorem chkV_false_0 : chkV false 0 = true := by kernel_rfl
theorem chkV_false_1 : chkV false 1 = true := by kernel_rfl
theorem chkV_false_2 : chkV false 2 = true := by kernel_rfl
theorem chkV_false_3 : chkV false 3 = true := by kernel_rfl
theorem allV_false : ∀ i : Nat, i < 4 → chkV false i = true
  | 0, _ => chkV_false_0
  | 1, _ => chkV_false_1
  | 2, _ => chkV_false_2
  | 3, _ => chkV_false_3
  | i + 4, h => absurd h (by omega)
theorem chkV_true_0 : chkV true 0 = true := by kernel_rfl
theorem chkV_true_1 : chkV true 1 = true := by kernel_rfl
theorem chkV_true_2 : chkV true 2 = true := by kernel_rfl
theorem chkV_true_3 : chkV true 3 = true := by kernel_rfl
theorem chkV_true_4 : chkV true 4 = true := by kernel_rfl
theorem chkV_true_5 : chkV true 5 = true := by kernel_rfl
theorem chkV_true_6 : chkV true 6 = true := by kernel_rfl
theorem allV_true : ∀ i : Nat, i < 7 → chkV true i = true
  | 0, _ => chkV_true_0
  | 1, _ => chkV_true_1
  | 2, _ => chkV_true_2
  | 3, _ => chkV_true_3
  | 4, _ => chkV_true_4
  | 5, _ => chkV_true_5
  | 6, _ => chkV_true_6
  | i + 7, h => absurd h (by omega)
theorem allV (b : Bool) (i : Nat) (h : i < (aps b).length) : chkV b i = true := by
  cases b
  · exact allV_false i h
  · exact allV_true i h
/-- what the thing's names say -/
theorem thing_of {T : PyData} (h : PyData.isTuple T = true → ∀ h : PyData, nmsM [.val h, .val T, .no] = some (.ok (.bool (goodB T)) [.val h, .val T, .no])) (h2 : PyData.isTuple T = false → goodB T = false) : Thing T (goodB T) := by
  refine ⟨fun x => ?_⟩
  cases e : PyData.isTuple T with
  | true => exact .inr ⟨rfl, h e x⟩
  | false => exact .inl ⟨rfl, h2 e⟩
theorem th_false_0 : ∀ T ∈ seatT [[nA], [nB], [nC]] :: variants [[nA], [nB], [nC]], Thing T (goodB T) := by
  intro T hT
  refine thing_of (fun hh => ?_) (fun hh => ?_)
  · rcases (by simpa [variants, seatT] using hT) with rfl | rfl | rfl | rfl | rfl | rfl | rfl <;> first | exact absurd hh (by decide) | (intro h; kernel_rfl)
  · rcases (by simpa [variants, seatT] using hT) with rfl | rfl | rfl | rfl | rfl | rfl | rfl <;> first | exact absurd hh (by decide) | rfl
theorem th_false_1 : ∀ T ∈ seatT [[nA], [nB, nC]] :: variants [[nA], [nB, nC]], Thing T (goodB T) := by
  intro T hT
  refine thing_of (fun hh => ?_) (fun hh => ?_)
  · rcases (by simpa [variants, seatT] using hT) with rfl | rfl | rfl | rfl | rfl | rfl | rfl <;> first | exact absurd hh (by decide) | (intro h; kernel_rfl)
  · rcases (by simpa [variants, seatT] using hT) with rfl | rfl | rfl | rfl | rfl | rfl | rfl <;> first | exact absurd hh (by decide) | rfl
theorem th_false_2 : ∀ T ∈ seatT [[nA, nB], [nC]] :: variants [[nA, nB], [nC]], Thing T (goodB T) := by
  intro T hT
  refine thing_of (fun hh => ?_) (fun hh => ?_)
  · rcases (by simpa [variants, seatT] using hT) with rfl | rfl | rfl | rfl | rfl | rfl | rfl <;> first | exact absurd hh (by decide) | (intro h; kernel_rfl)
  · rcases (by simpa [variants, seatT] using hT) with rfl | rfl | rfl | rfl | rfl | rfl | rfl <;> first | exact absurd hh (by decide) | rfl
theorem th_false_3 : ∀ T ∈ seatT [[nA, nB, nC]] :: variants [[nA, nB, nC]], Thing T (goodB T) := by
  intro T hT
  refine thing_of (fun hh => ?_) (fun hh => ?_)
  · rcases (by simpa [variants, seatT] using hT) with rfl | rfl | rfl | rfl | rfl | rfl | rfl <;> first | exact absurd hh (by decide) | (intro h; kernel_rfl)
  · rcases (by simpa [variants, seatT] using hT) with rfl | rfl | rfl | rfl | rfl | rfl | rfl <;> first | exact absurd hh (by decide) | rfl
theorem th_false_4 : ∀ T ∈ seatT [[nA, nC], [nB]] :: variants [[nA, nC], [nB]], Thing T (goodB T) := by
  intro T hT
  refine thing_of (fun hh => ?_) (fun hh => ?_)
  · rcases (by simpa [variants, seatT] using hT) with rfl | rfl | rfl | rfl | rfl | rfl | rfl <;> first | exact absurd hh (by decide) | (intro h; kernel_rfl)
  · rcases (by simpa [variants, seatT] using hT) with rfl | rfl | rfl | rfl | rfl | rfl | rfl <;> first | exact absurd hh (by decide) | rfl
theorem th_true_0 : ∀ T ∈ seatT [[nA], [nB], [nC], [nD]] :: variants [[nA], [nB], [nC], [nD]], Thing T (goodB T) := by
  intro T hT
  refine thing_of (fun hh => ?_) (fun hh => ?_)
  · rcases (by simpa [variants, seatT] using hT) with rfl | rfl | rfl | rfl | rfl | rfl | rfl <;> first | exact absurd hh (by decide) | (intro h; kernel_rfl)
  · rcases (by simpa [variants, seatT] using hT) with rfl | rfl | rfl | rfl | rfl | rfl | rfl <;> first | exact absurd hh (by decide) | rfl
theorem th_true_1 : ∀ T ∈ seatT [[nA], [nB], [nC, nD]] :: variants [[nA], [nB], [nC, nD]], Thing T (goodB T) := by
  intro T hT
  refine thing_of (fun hh => ?_) (fun hh => ?_)
  · rcases (by simpa [variants, seatT] using hT) with rfl | rfl | rfl | rfl | rfl | rfl | rfl <;> first | exact absurd hh (by decide) | (intro h; kernel_rfl)
  · rcases (by simpa [variants, seatT] using hT) with rfl | rfl | rfl | rfl | rfl | rfl | rfl <;> first | exact absurd hh (by decide) | rfl
theorem th_true_2 : ∀ T ∈ seatT [[nA], [nB, nC], [nD]] :: variants [[nA], [nB, nC], [nD]], Thing T (goodB T) := by
  intro T hT
  refine thing_of (fun hh => ?_) (fun hh => ?_)
  · rcases (by simpa [variants, seatT] using hT) with rfl | rfl | rfl | rfl | rfl | rfl | rfl <;> first | exact absurd hh (by decide) | (intro h; kernel_rfl)
  · rcases (by simpa [variants, seatT] using hT) with rfl | rfl | rfl | rfl | rfl | rfl | rfl <;> first | exact absurd hh (by decide) | rfl
theorem th_true_3 : ∀ T ∈ seatT [[nA], [nB, nC, nD]] :: variants [[nA], [nB, nC, nD]], Thing T (goodB T) := by
  intro T hT
  refine thing_of (fun hh => ?_) (fun hh => ?_)
  · rcases (by simpa [variants, seatT] using hT) with rfl | rfl | rfl | rfl | rfl | rfl | rfl <;> first | exact absurd hh (by decide) | (intro h; kernel_rfl)
  · rcases (by simpa [variants, seatT] using hT) with rfl | rfl | rfl | rfl | rfl | rfl | rfl <;> first | exact absurd hh (by decide) | rfl
theorem th_true_4 : ∀ T ∈ seatT [[nA], [nB, nD], [nC]] :: variants [[nA], [nB, nD], [nC]], Thing T (goodB T) := by
  intro T hT
  refine thing_of (fun hh => ?_) (fun hh => ?_)
  · rcases (by simpa [variants, seatT] using hT) with rfl | rfl | rfl | rfl | rfl | rfl | rfl <;> first | exact absurd hh (by decide) | (intro h; kernel_rfl)
  · rcases (by simpa [variants, seatT] using hT) with rfl | rfl | rfl | rfl | rfl | rfl | rfl <;> first | exact absurd hh (by decide) | rfl
theorem th_true_5 : ∀ T ∈ seatT [[nA, nB], [nC], [nD]] :: variants [[nA, nB], [nC], [nD]], Thing T (goodB T) := by
  intro T hT
  refine thing_of (fun hh => ?_) (fun hh => ?_)
  · rcases (by simpa [variants, seatT] using hT) with rfl | rfl | rfl | rfl | rfl | rfl | rfl <;> first | exact absurd hh (by decide) | (intro h; kernel_rfl)
  · rcases (by simpa [variants, seatT] using hT) with rfl | rfl | rfl | rfl | rfl | rfl | rfl <;> first | exact absurd hh (by decide) | rfl
theorem th_true_6 : ∀ T ∈ seatT [[nA, nB], [nC, nD]] :: variants [[nA, nB], [nC, nD]], Thing T (goodB T) := by
  intro T hT
  refine thing_of (fun hh => ?_) (fun hh => ?_)
  · rcases (by simpa [variants, seatT] using hT) with rfl | rfl | rfl | rfl | rfl | rfl | rfl <;> first | exact absurd hh (by decide) | (intro h; kernel_rfl)
  · rcases (by simpa [variants, seatT] using hT) with rfl | rfl | rfl | rfl | rfl | rfl | rfl <;> first | exact absurd hh (by decide) | rfl
theorem th_true_7 : ∀ T ∈ seatT [[nA, nB, nC], [nD]] :: variants [[nA, nB, nC], [nD]], Thing T (goodB T) := by
  intro T hT
  refine thing_of (fun hh => ?_) (fun hh => ?_)
  · rcases (by simpa [variants, seatT] using hT) with rfl | rfl | rfl | rfl | rfl | rfl | rfl <;> first | exact absurd hh (by decide) | (intro h; kernel_rfl)
  · rcases (by simpa [variants, seatT] using hT) with rfl | rfl | rfl | rfl | rfl | rfl | rfl <;> first | exact absurd hh (by decide) | rfl
theorem th_true_8 : ∀ T ∈ seatT [[nA, nB, nC, nD]] :: variants [[nA, nB, nC, nD]], Thing T (goodB T) := by
  intro T hT
  refine thing_of (fun hh => ?_) (fun hh => ?_)
  · rcases (by simpa [variants, seatT] using hT) with rfl | rfl | rfl | rfl | rfl | rfl | rfl <;> first | exact absurd hh (by decide) | (intro h; kernel_rfl)
  · rcases (by simpa [variants, seatT] using hT) with rfl | rfl | rfl | rfl | rfl | rfl | rfl <;> first | exact absurd hh (by decide) | rfl
theorem th_true_9 : ∀ T ∈ seatT [[nA, nB, nD], [nC]] :: variants [[nA, nB, nD], [nC]], Thing T (goodB T) := by
  intro T hT
  refine thing_of (fun hh => ?_) (fun hh => ?_)
  · rcases (by simpa [variants, seatT] using hT) with rfl | rfl | rfl | rfl | rfl | rfl | rfl <;> first | exact absurd hh (by decide) | (intro h; kernel_rfl)
  · rcases (by simpa [variants, seatT] using hT) with rfl | rfl | rfl | rfl | rfl | rfl | rfl <;> first | exact absurd hh (by decide) | rfl
theorem th_true_10 : ∀ T ∈ seatT [[nA, nC], [nB], [nD]] :: variants [[nA, nC], [nB], [nD]], Thing T (goodB T) := by
  intro T hT
  refine thing_of (fun hh => ?_) (fun hh => ?_)
  · rcases (by simpa [variants, seatT] using hT) with rfl | rfl | rfl | rfl | rfl | rfl | rfl <;> first | exact absurd hh (by decide) | (intro h; kernel_rfl)
  · rcases (by simpa [variants, seatT] using hT) with rfl | rfl | rfl | rfl | rfl | rfl | rfl <;> first | exact absurd hh (by decide) | rfl
theorem th_true_11 : ∀ T ∈ seatT [[nA, nC], [nB, nD]] :: variants [[nA, nC], [nB, nD]], Thing T (goodB T) := by
  intro T hT
  refine thing_of (fun hh => ?_) (fun hh => ?_)
  · rcases (by simpa [variants, seatT] using hT) with rfl | rfl | rfl | rfl | rfl | rfl | rfl <;> first | exact absurd hh (by decide) | (intro h; kernel_rfl)
  · rcases (by simpa [variants, seatT] using hT) with rfl | rfl | rfl | rfl | rfl | rfl | rfl <;> first | exact absurd hh (by decide) | rfl
theorem th_true_12 : ∀ T ∈ seatT [[nA, nC, nD], [nB]] :: variants [[nA, nC, nD], [nB]], Thing T (goodB T) := by
  intro T hT
  refine thing_of (fun hh => ?_) (fun hh => ?_)
  · rcases (by simpa [variants, seatT] using hT) with rfl | rfl | rfl | rfl | rfl | rfl | rfl <;> first | exact absurd hh (by decide) | (intro h; kernel_rfl)
  · rcases (by simpa [variants, seatT] using hT) with rfl | rfl | rfl | rfl | rfl | rfl | rfl <;> first | exact absurd hh (by decide) | rfl
theorem th_true_13 : ∀ T ∈ seatT [[nA, nD], [nB], [nC]] :: variants [[nA, nD], [nB], [nC]], Thing T (goodB T) := by
  intro T hT
  refine thing_of (fun hh => ?_) (fun hh => ?_)
  · rcases (by simpa [variants, seatT] using hT) with rfl | rfl | rfl | rfl | rfl | rfl | rfl <;> first | exact absurd hh (by decide) | (intro h; kernel_rfl)
  · rcases (by simpa [variants, seatT] using hT) with rfl | rfl | rfl | rfl | rfl | rfl | rfl <;> first | exact absurd hh (by decide) | rfl
theorem th_true_14 : ∀ T ∈ seatT [[nA, nD], [nB, nC]] :: variants [[nA, nD], [nB, nC]], Thing T (goodB T) := by
  intro T hT
  refine thing_of (fun hh => ?_) (fun hh => ?_)
  · rcases (by simpa [variants, seatT] using hT) with rfl | rfl | rfl | rfl | rfl | rfl | rfl <;> first | exact absurd hh (by decide) | (intro h; kernel_rfl)
  · rcases (by simpa [variants, seatT] using hT) with rfl | rfl | rfl | rfl | rfl | rfl | rfl <;> first | exact absurd hh (by decide) | rfl
theorem things (b : Bool) : ∀ g ∈ base b, ∀ T ∈ seatT g :: variants g, Thing T (goodB T) := by
  intro g hg
  cases b
  · rcases (by simpa [base, base3, base4] using hg) with rfl | rfl | rfl | rfl | rfl
    · exact th_false_0
    · exact th_false_1
    · exact th_false_2
    · exact th_false_3
    · exact th_false_4
  · rcases (by simpa [base, base3, base4] using hg) with rfl | rfl | rfl | rfl | rfl | rfl | rfl | rfl | rfl | rfl | rfl | rfl | rfl | rfl | rfl
    · exact th_true_0
    · exact th_true_1
    · exact th_true_2
    · exact th_true_3
    · exact th_true_4
    · exact th_true_5
    · exact th_true_6
    · exact th_true_7
    · exact th_true_8
    · exact th_true_9
    · exact th_true_10
    · exact th_true_11
    · exact th_true_12
    · exact th_true_13
    · exact th_true_14
end K02

namespace K02
open PySem PySem.Spec L2 RH
def okSit (o o2 : Option Out) : Bool := match o, o2 with
  | some (.ok (.bool p) _), some (.ok (.bool q) _) => p == q
  | _, _ => false
theorem okSit_eq {o o2 : Option Out} (h : okSit o o2 = true) : ∃ p ss ss2, o = some (.ok (.bool p) ss) ∧ o2 = some (.ok (.bool p) ss2) := by
  unfold okSit at h
  split at h
  · rw [beq_iff_eq] at h
    subst h
    exact ⟨_, _, _, rfl, rfl⟩
  · cases h
def chkS (b : Bool) : Bool := (base b).all fun g => (folk b).all fun x => (folk b).all fun y => okSit (φ_do_sit [.val (seatT g), .val (.tuple [x, y])]) (φ__law_sit [.val (seatT g), .val (.list [x, y])])
theorem chkS_t (b : Bool) : chkS b = true := by
  cases b
  · kernel_rfl
  · kernel_rfl
theorem sits {b : Bool} {g : List (List PyData)} {x y : PyData} (hg : g ∈ base b) (hx : x ∈ folk b) (hy : y ∈ folk b) : ∃ p ss ss2, φ_do_sit [.val (seatT g), .val (.tuple [x, y])] = some (.ok (.bool p) ss) ∧ φ__law_sit [.val (seatT g), .val (.list [x, y])] = some (.ok (.bool p) ss2) :=
  okSit_eq (List.all_eq_true.mp (List.all_eq_true.mp (List.all_eq_true.mp (chkS_t b) g hg) x hx) y hy)
/-- law's slots -/
abbrev fr (s0 d h f S x5 x6 x7 x8 x9 x10 x11 x12 x13 x14 : Slot) : List Slot := [s0, d, h, f, S, x5, x6, x7, x8, x9, x10, x11, x12, x13, x14]
theorem ne_same (p : Bool) : neD (.bool p) (.bool p) = some (.bool false) := by cases p <;> rfl
/-- all pairs of the folk -/
theorem pairs_ok {b : Bool} {h : PyData} {g : List (List PyData)} {s0 d S x5 x6 x10 x11 x12 x13 x14 : Slot} (hg : g ∈ base b) (n : φ_need_house [.val h] = some (.ok .none [.val h])) (e : φ_need_seating [.val h, .val (seatT g)] = some (.ok .none [.val h, .val (seatT g)]))
    (en : ∀ x ∈ folk b, φ_need_name [.val h, .val x] = some (.ok .none [.val h, .val x])) (x8 x9 : Slot) :
    ∃ y8 y9, sfor (msrc (mvar 3)) (.nm 8) (sfor (msrc (mvar 3)) (.nm 9) (sif (mtest (m2 neD (mcall 4 φ_together (mcons (mvar 2) (mcons (mvar 7) (mcons (mvar 8) (mcons (mvar 9) (mnil)))))) (mcall 2 φ__law_sit (mcons (mvar 7) (mcons (mL mkLst (mcons (mvar 8) (mcons (mvar 9) (mnil)))) (mnil)))))) (sret (mpure (.bool false))) (snext)))
      (fr s0 d (.val h) (.val (.tuple (folk b))) S x5 x6 (.val (seatT g)) x8 x9 x10 x11 x12 x13 x14) = some (.nx (fr s0 d (.val h) (.val (.tuple (folk b))) S x5 x6 (.val (seatT g)) y8 y9 x10 x11 x12 x13 x14)) := by
  have inner : ∀ x ∈ folk b, ∀ y9 : Slot, ∃ z9, sfor (msrc (mvar 3)) (.nm 9) (sif (mtest (m2 neD (mcall 4 φ_together (mcons (mvar 2) (mcons (mvar 7) (mcons (mvar 8) (mcons (mvar 9) (mnil)))))) (mcall 2 φ__law_sit (mcons (mvar 7) (mcons (mL mkLst (mcons (mvar 8) (mcons (mvar 9) (mnil)))) (mnil)))))) (sret (mpure (.bool false))) (snext))
      (fr s0 d (.val h) (.val (.tuple (folk b))) S x5 x6 (.val (seatT g)) (.val x) y9 x10 x11 x12 x13 x14) = some (.nx (fr s0 d (.val h) (.val (.tuple (folk b))) S x5 x6 (.val (seatT g)) (.val x) z9 x10 x11 x12 x13 x14)) := fun x hx y9 => by
    obtain ⟨δ2, e2, z9, rfl⟩ := st_loop (t := .nm 9) (mb := sif (mtest (m2 neD (mcall 4 φ_together (mcons (mvar 2) (mcons (mvar 7) (mcons (mvar 8) (mcons (mvar 9) (mnil)))))) (mcall 2 φ__law_sit (mcons (mvar 7) (mcons (mL mkLst (mcons (mvar 8) (mcons (mvar 9) (mnil)))) (mnil)))))) (sret (mpure (.bool false))) (snext))
      (fun _ δ => ∃ z, δ = fr s0 d (.val h) (.val (.tuple (folk b))) S x5 x6 (.val (seatT g)) (.val x) z x10 x11 x12 x13 x14) (folk b) _ ⟨y9, rfl⟩ fun y hy n' δ hδ => by
        obtain ⟨z, rfl⟩ := hδ
        obtain ⟨p, ss, ss2, q1, q2⟩ := sits hg hx hy
        refine ⟨_, _, rfl, ?_, .val y, rfl⟩
        exact st_ifF (ev_test (ev_m2 (ev_call (ev_cons rfl (ev_cons rfl (ev_cons rfl (ev_cons rfl rfl)))) rfl (together_ok n e (en x hx) (en y hy) q1)) (ev_call (ev_cons rfl (ev_cons (ev_L (ev_cons rfl (ev_cons rfl rfl)) rfl) rfl)) rfl q2) (ne_same p))) rfl
    refine ⟨z9, ?_⟩
    show sloop (.nm 9) _ (folk b) _ = _
    exact e2
  obtain ⟨δ2, e2, y8, y9, rfl⟩ := st_loop (t := .nm 8) (mb := sfor (msrc (mvar 3)) (.nm 9) (sif (mtest (m2 neD (mcall 4 φ_together (mcons (mvar 2) (mcons (mvar 7) (mcons (mvar 8) (mcons (mvar 9) (mnil)))))) (mcall 2 φ__law_sit (mcons (mvar 7) (mcons (mL mkLst (mcons (mvar 8) (mcons (mvar 9) (mnil)))) (mnil)))))) (sret (mpure (.bool false))) (snext)))
    (fun _ δ => ∃ z8 z9, δ = fr s0 d (.val h) (.val (.tuple (folk b))) S x5 x6 (.val (seatT g)) z8 z9 x10 x11 x12 x13 x14) (folk b) _ ⟨x8, x9, rfl⟩ fun x hx n' δ hδ => by
      obtain ⟨z8, z9, rfl⟩ := hδ
      obtain ⟨w9, q⟩ := inner x hx z9
      exact ⟨_, _, rfl, q, .val x, w9, rfl⟩
  refine ⟨y8, y9, ?_⟩
  show sloop (.nm 8) _ (folk b) _ = _
  exact e2
end K02

namespace K02
open PySem PySem.Spec L2 RH
def tu0 : MS := sasg (.nm 6) (mcall 1 φ__law_all_seatings (mcons (mL mkTup (mcons (mvar 3) (mcons (mL lenD (mcons (mvar 3) (mnil))) (mcons (mL lenD (mcons (mvar 3) (mnil))) (mcons (mL mkTup (mnil)) (mnil)))))) (mnil)))
def tu1 : MS := sasg (.nm 7) (m2 ixD (mvar 6) (mcallO 2 φ__law_roll 1 (mcons (mL lenD (mcons (mvar 6) (mnil))) (mnil))))
def tu2 : MS := sif (mtest (m2 neD (mcall 2 φ_is_seating (mcons (mvar 2) (mcons (mvar 7) (mnil)))) (m2 inD (mvar 7) (mvar 4)))) (sret (mpure (.bool false))) (snext)
def tu3 : MS := sif (mtest (m2 inD (mvar 7) (mvar 4))) (sfor (msrc (mvar 3)) (.nm 8) (sfor (msrc (mvar 3)) (.nm 9) (sif (mtest (m2 neD (mcall 4 φ_together (mcons (mvar 2) (mcons (mvar 7) (mcons (mvar 8) (mcons (mvar 9) (mnil)))))) (mcall 2 φ__law_sit (mcons (mvar 7) (mcons (mL mkLst (mcons (mvar 8) (mcons (mvar 9) (mnil)))) (mnil)))))) (sret (mpure (.bool false))) (snext)))) (snext)
def tu4 : MS := sasg (.nm 10) (mL mkLst (mcons (msl (mvar 7) (mprt (mpure (.int 1))) (mnoP)) (mcons (m2 addD (mvar 7) (msl (mvar 7) (mnoP) (mprt (mpure (.int 1))))) (mcons (m1 revD (mvar 7)) (mcons (mL listD (mcons (mvar 7) (mnil))) (mnil))))))
def tu5 : MS := sasg (.nm 10) (m2 addD (mvar 10) (mL mkLst (mcons (m2 addD (msl (mvar 7) (mnoP) (mprt (m1 negD (mpure (.int 1))))) (mL mkTup (mcons (mL mkTup (mnil)) (mnil)))) (mcons (m2 addD (msl (mvar 7) (mnoP) (mprt (m1 negD (mpure (.int 1))))) (mL mkTup (mcons (mL listD (mcons (m2 ixD (mvar 7) (m1 negD (mpure (.int 1)))) (mnil))) (mnil)))) (mnil)))))
def tu6 : MS := sasg (.nm 11) (m2 ixD (mvar 10) (mcallO 2 φ__law_roll 1 (mcons (mpure (.int 6)) (mnil))))
def tu7 : MS := sif (mtest (m2 neD (mcall 2 φ_is_seating (mcons (mvar 2) (mcons (mvar 11) (mnil)))) (m2 inD (mvar 11) (mvar 4)))) (sret (mpure (.bool false))) (snext)
def mTurn : MS := sseq (tu0)
    (sseq (tu1)
    (sseq (tu2)
    (sseq (tu3)
    (sseq (tu4)
    (sseq (tu5)
    (sseq (tu6)
    (tu7)))))))
def ca0 : MS := ssetO 14 (mLst (mcons (mtold φ__law_term (mcall 4 φ_together (mcons (mvar 2) (mcons (mvar 13) (mcons (mpure .none) (mcons (mpure .none) (mnil))))))) (mnil)))
def ca1 : MS := sexpr (mappend 14 (mtold φ__law_term (mcall 2 φ_seating_text (mcons (mvar 2) (mcons (mvar 13) (mnil))))))
def ca2 : MS := sexpr (mappend 14 (mtold φ__law_term (mmethN 0 2 "sit" φ_Book_sit (mnew 0 2 φ_Book___init__ (mcons (mvar 2) (mnil))) (mcons (mvar 13) (mnil)))))
def ca3 : MS := sif (mor (mtest (m2 isNotD (mcall 2 φ_is_seating (mcons (mvar 2) (mcons (mvar 13) (mnil)))) (mpure (.bool false)))) (mtest (mcmpO neD 14 (m2 mulD (mL mkLst (mcons (mL mkTup (mcons (mpure (.str "refused")) (mcons (mpure (.str "BadSeating")) (mnil)))) (mnil))) (mpure (.int 3)))))) (sret (mpure (.bool false))) (snext)
def mCase : MS := sseq (ca0)
    (sseq (ca1)
    (sseq (ca2)
    (ca3)))
def se0 : MS := ssetO 14 (mLst (mcons (mtold φ__law_term (mcall 4 φ_together (mcons (mvar 2) (mcons (mvar 7) (mcons (mvar 13) (mcons (mpure .none) (mnil))))))) (mnil)))
def se1 : MS := sexpr (mappend 14 (mtold φ__law_term (mcall 4 φ_together (mcons (mvar 2) (mcons (mvar 7) (mcons (mpure (.str "ann")) (mcons (mvar 13) (mnil))))))))
def se2 : MS := sif (mtest (mcmpO neD 14 (m2 mulD (mL mkLst (mcons (mL mkTup (mcons (mpure (.str "refused")) (mcons (mpure (.str "BadName")) (mnil)))) (mnil))) (mpure (.int 2))))) (sret (mpure (.bool false))) (snext)
def mSeat1 : MS := sseq (se0)
    (sseq (se1)
    (se2))
def mSeat : MS := sfor (msrc (mL mkLst (mcons (mpure .none) (mcons (mpure (.int 5)) (mcons (mpure (.str "zed")) (mcons (mL mkTup (mcons (mpure (.str "ann")) (mnil))) (mnil))))))) (.nm 13) mSeat1
def bo0 : MS := sasg (.nm 2) (mcallO 1 φ__law_any_house 1 (mnil))
def bo1 : MS := spar [3, 4] (cval (m2 ixD (mvar 2) (mpure (.int 0))) (cval (mcall 1 φ__law_all_seatings (mcons (mvar 2) (mnil))) (cnil)))
def bo2 : MS := sif (mtest (m2 neD (mcall 1 φ_seatings (mcons (mvar 2) (mnil))) (mvar 4))) (sret (mpure (.bool false))) (snext)
def bo3 : MS := sif (mtest (m2 neD (mL lenD (mcons (mcall 1 φ_seatings (mcons (mL mkTup (mcons (mvar 3) (mcons (mL lenD (mcons (mvar 3) (mnil))) (mcons (mL lenD (mcons (mvar 3) (mnil))) (mcons (mL mkTup (mnil)) (mnil)))))) (mnil))) (mnil))) (m2 ixD (mL mkLst (mcons (mpure (.int 5)) (mcons (mpure (.int 15)) (mnil)))) (m2 isubD (mL lenD (mcons (mvar 3) (mnil))) (mpure (.int 3)))))) (sret (mpure (.bool false))) (snext)
def bo4 : MS := sfor (mrange1 (mpure (.int 6))) (.nm 5) mTurn
def bo5 : MS := sasg (.nm 12) (mL mkLst (mcons (mpure .none) (mcons (mpure (.int 5)) (mcons (mL mkTup (mnil)) (mcons (mL mkTup (mcons (mpure (.str "ann")) (mnil))) (mcons (mL mkTup (mcons (mL mkTup (mcons (mpure (.str "ann")) (mcons (mpure (.str "bob")) (mnil)))) (mnil))) (mcons (mL mkTup (mcons (mL mkTup (mcons (mpure (.int 1)) (mcons (mpure (.int 2)) (mnil)))) (mnil))) (mnil))))))))
def bo6 : MS := sasg (.nm 12) (m2 addD (mvar 12) (mL mkLst (mcons (mL mkTup (mcons (mL mkTup (mcons (mpure (.str "ann")) (mnil))) (mcons (mL mkTup (mcons (mpure (.str "bob")) (mnil))) (mcons (mL mkTup (mcons (mpure (.str "cy")) (mnil))) (mcons (mL mkTup (mcons (mpure (.str "zed")) (mnil))) (mnil)))))) (mcons (mpure (.str "ann")) (mnil)))))
def bo7 : MS := sfor (msrc (mvar 12)) (.nm 13) mCase
def bo8 : MS := sfor (msrc (msl (mvar 4) (mnoP) (mprt (mpure (.int 2))))) (.nm 7) mSeat
def mBody : MS := sseq (bo0)
    (sseq (bo1)
    (sseq (bo2)
    (sseq (bo3)
    (sseq (bo4)
    (sseq (bo5)
    (sseq (bo6)
    (sseq (bo7)
    (bo8))))))))
theorem m_law_eq : m_law = sseq (sforR 1 (mcallR 2 φ__law_rounds (mcons (mvar 0) (mcons (mpure (.int 5)) (mnil)))) mBody) (sret (mpure (.bool true))) := rfl
end K02

namespace K02
open PySem PySem.Spec L2 RH
theorem free_eq (b : Bool) : Sl b (sz b) (sz b) [] = (base b).map seatT := by
  cases b
  · kernel_rfl
  · kernel_rfl
theorem free_ok (b : Bool) : φ__law_all_seatings [.val (Hs b (sz b) (sz b) [])] = some (.ok (.list ((base b).map seatT)) [.val (Hs b (sz b) (sz b) [])]) := by
  have h1 : 1 ≤ sz b := by cases b <;> decide
  have := (house_ok (b := b) h1 (Nat.le_refl _) h1 (Nat.le_refl _) (List.mem_cons_self : [] ∈ aps b)).lawAll
  rw [free_eq] at this
  exact this
/-- all that the turns ask -/
structure Ctx (b : Bool) (h : PyData) (S : List PyData) : Prop where
  H : House h S
  en : ∀ x ∈ folk b, φ_need_name [.val h, .val x] = some (.ok .none [.val h, .val x])
  inn : ∀ g ∈ base b, ∀ T ∈ seatT g :: variants g, ∃ q, inD T (.list S) = some (.bool q) ∧ (goodB T && q) = q
theorem var_ok (b : Bool) : ∀ g ∈ base b, ∀ s0 d h f S x5 x6 x8 x9 x10 x11 x12 x13 x14 : Slot,
    tu4 (fr s0 d h f S x5 x6 (.val (seatT g)) x8 x9 x10 x11 x12 x13 x14) = some (.nx (fr s0 d h f S x5 x6 (.val (seatT g)) x8 x9 (.val (.list ((variants g).take 4))) x11 x12 x13 x14)) ∧
    tu5 (fr s0 d h f S x5 x6 (.val (seatT g)) x8 x9 (.val (.list ((variants g).take 4))) x11 x12 x13 x14) = some (.nx (fr s0 d h f S x5 x6 (.val (seatT g)) x8 x9 (.val (.list (variants g))) x11 x12 x13 x14)) := by
  intro g hg
  cases b
  · rcases (by simpa [base, base3] using hg) with rfl | rfl | rfl | rfl | rfl <;> (intro s0 d h f S x5 x6 x8 x9 x10 x11 x12 x13 x14; exact ⟨by kernel_rfl, by kernel_rfl⟩)
  · rcases (by simpa [base, base4] using hg) with rfl | rfl | rfl | rfl | rfl | rfl | rfl | rfl | rfl | rfl | rfl | rfl | rfl | rfl | rfl <;> (intro s0 d h f S x5 x6 x8 x9 x10 x11 x12 x13 x14; exact ⟨by kernel_rfl, by kernel_rfl⟩)
theorem turn_ok {b : Bool} {h : PyData} {S : List PyData} (X : Ctx b h S) {n : Nat} {c k : Int} (D : Dice (n + 2) c k) (s0 x5 x6 x7 x8 x9 x10 x11 x12 x13 x14 : Slot) :
    ∃ c' k' y6 y7 y8 y9 y10 y11, mTurn (fr s0 (dice c k) (.val h) (.val (.tuple (folk b))) (.val (.list S)) x5 x6 x7 x8 x9 x10 x11 x12 x13 x14) = some (.nx (fr s0 (dice c' k') (.val h) (.val (.tuple (folk b))) (.val (.list S)) x5 y6 y7 y8 y9 y10 y11 x12 x13 x14)) ∧ Dice n c' k' := by
  have hlen : lenD [.list ((base b).map seatT)] = some (.int (((base b).map seatT).length : Nat)) := rfl
  obtain ⟨j, c1, k1, e1, j0, j1, D1⟩ := roll_ok (m := (((base b).map seatT).length : Nat)) (by cases b <;> decide) (by cases b <;> decide) D
  obtain ⟨T, hT, eT⟩ := atI_nat j0 j1
  obtain ⟨g, hg, rfl⟩ := List.mem_map.mp hT
  obtain ⟨q, hq, hgq⟩ := X.inn g hg (seatT g) List.mem_cons_self
  have tg := things b g hg (seatT g) List.mem_cons_self
  obtain ⟨j2, c2, k2, e2, j20, j21, D2⟩ := roll_ok (m := 6) (by decide) (by decide) D1
  obtain ⟨U, hU, eU⟩ := atI_nat (xs := variants g) j20 (by show j2 < 6; exact j21)
  obtain ⟨q2, hq2, hgq2⟩ := X.inn g hg U (List.mem_cons_of_mem _ hU)
  have tU := things b g hg U (List.mem_cons_of_mem _ hU)
  have A0 : tu0 (fr s0 (dice c k) (.val h) (.val (.tuple (folk b))) (.val (.list S)) x5 x6 x7 x8 x9 x10 x11 x12 x13 x14) = some (.nx (fr s0 (dice c k) (.val h) (.val (.tuple (folk b))) (.val (.list S)) x5 (.val (.list ((base b).map seatT))) x7 x8 x9 x10 x11 x12 x13 x14)) := by
    have el : lenD [.tuple (folk b)] = some (.int (sz b : Nat)) := by cases b <;> rfl
    exact st_asg (ev_call (ev_cons (ev_L (ev_cons rfl (ev_cons (ev_L (ev_cons rfl rfl) el) (ev_cons (ev_L (ev_cons rfl rfl) el) (ev_cons rfl rfl)))) rfl) rfl) rfl (free_ok b)) rfl
  have A1 : tu1 (fr s0 (dice c k) (.val h) (.val (.tuple (folk b))) (.val (.list S)) x5 (.val (.list ((base b).map seatT))) x7 x8 x9 x10 x11 x12 x13 x14) = some (.nx (fr s0 (dice c1 k1) (.val h) (.val (.tuple (folk b))) (.val (.list S)) x5 (.val (.list ((base b).map seatT))) (.val (seatT g)) x8 x9 x10 x11 x12 x13 x14)) :=
    st_asg (ev_m2 rfl (ev_roll rfl (ev_cons (ev_L (ev_cons rfl rfl) hlen) rfl) rfl e1) eT) rfl
  have A2 : ∀ x6 x10 x11 : Slot, tu2 (fr s0 (dice c1 k1) (.val h) (.val (.tuple (folk b))) (.val (.list S)) x5 x6 (.val (seatT g)) x8 x9 x10 x11 x12 x13 x14) = some (.nx (fr s0 (dice c1 k1) (.val h) (.val (.tuple (folk b))) (.val (.list S)) x5 x6 (.val (seatT g)) x8 x9 x10 x11 x12 x13 x14)) := fun x6 x10 x11 => by
    have e := isSeat_ev X.H tg (fun _ => hq)
    rw [hgq] at e
    exact st_ifF (ev_test (ev_m2 (ev_call (ev_cons rfl (ev_cons rfl rfl)) rfl e) (ev_m2 rfl rfl hq) (ne_same q))) rfl
  have A3 : ∃ y8 y9, tu3 (fr s0 (dice c1 k1) (.val h) (.val (.tuple (folk b))) (.val (.list S)) x5 (.val (.list ((base b).map seatT))) (.val (seatT g)) x8 x9 x10 x11 x12 x13 x14) = some (.nx (fr s0 (dice c1 k1) (.val h) (.val (.tuple (folk b))) (.val (.list S)) x5 (.val (.list ((base b).map seatT))) (.val (seatT g)) y8 y9 x10 x11 x12 x13 x14)) := by
    cases q with
    | false => exact ⟨x8, x9, st_ifF (ev_test (ev_m2 rfl rfl hq)) rfl⟩
    | true =>
      obtain ⟨y8, y9, e⟩ := pairs_ok (s0 := s0) (d := dice c1 k1) (S := .val (.list S)) (x5 := x5) (x6 := .val (.list ((base b).map seatT))) (x10 := x10) (x11 := x11) (x12 := x12) (x13 := x13) (x14 := x14) hg X.H.need (needSeat_yes X.H tg (fun _ => hq) hgq) X.en x8 x9
      exact ⟨y8, y9, st_ifT (ev_test (ev_m2 rfl rfl hq)) e⟩
  obtain ⟨y8, y9, A3⟩ := A3
  obtain ⟨A4, A5⟩ := var_ok b g hg s0 (dice c1 k1) (.val h) (.val (.tuple (folk b))) (.val (.list S)) x5 (.val (.list ((base b).map seatT))) y8 y9 x10 x11 x12 x13 x14
  have A6 : tu6 (fr s0 (dice c1 k1) (.val h) (.val (.tuple (folk b))) (.val (.list S)) x5 (.val (.list ((base b).map seatT))) (.val (seatT g)) y8 y9 (.val (.list (variants g))) x11 x12 x13 x14) = some (.nx (fr s0 (dice c2 k2) (.val h) (.val (.tuple (folk b))) (.val (.list S)) x5 (.val (.list ((base b).map seatT))) (.val (seatT g)) y8 y9 (.val (.list (variants g))) (.val U) x12 x13 x14)) :=
    st_asg (ev_m2 rfl (ev_roll rfl (ev_cons rfl rfl) rfl e2) eU) rfl
  have A7 : tu7 (fr s0 (dice c2 k2) (.val h) (.val (.tuple (folk b))) (.val (.list S)) x5 (.val (.list ((base b).map seatT))) (.val (seatT g)) y8 y9 (.val (.list (variants g))) (.val U) x12 x13 x14) = some (.nx (fr s0 (dice c2 k2) (.val h) (.val (.tuple (folk b))) (.val (.list S)) x5 (.val (.list ((base b).map seatT))) (.val (seatT g)) y8 y9 (.val (.list (variants g))) (.val U) x12 x13 x14)) := by
    have e := isSeat_ev X.H tU (fun _ => hq2)
    rw [hgq2] at e
    exact st_ifF (ev_test (ev_m2 (ev_call (ev_cons rfl (ev_cons rfl rfl)) rfl e) (ev_m2 rfl rfl hq2) (ne_same q2))) rfl
  refine ⟨c2, k2, .val (.list ((base b).map seatT)), .val (seatT g), y8, y9, .val (.list (variants g)), .val U, ?_, D2⟩
  unfold mTurn
  exact st_seq A0 (st_seq A1 (st_seq (A2 _ _ _) (st_seq A3 (st_seq A4 (st_seq A5 (st_seq A6 A7))))))
end K02

namespace K02
open PySem PySem.Spec L2 RH
theorem ev_told {φ : Nat → Option PyData} {m : M PyData} {δ δ1 : List Slot} {c : Nat} {r : PyData} (h : m δ = some (.ex c δ1)) (e : φ c = some r) : mtold φ m δ = some (.ok r δ1) := by
  simp only [mtold, h, e]
theorem ev_Lst {ms : M (List PyData)} {δ δ1 : List Slot} {xs : List PyData} (h : ms δ = some (.ok xs δ1)) (hl : xs.length ≤ 1000000) : mLst ms δ = some (.ok xs δ1) := by
  simp only [mLst, mbind, h]
  unfold small
  simp only [if_pos hl, mlift]
theorem ev_app {i : Nat} {m : M PyData} {δ δ1 : List Slot} {d : PyData} {xs : List PyData} (h0 : isOwnL δ i = true) (h : m δ = some (.ok d δ1)) (hx : lookL δ1 i = some xs) (hl : xs.length < 1000000) : mappend i m δ = some (.ok .none (δ1.set i (.own (.b (.lst (xs ++ [d])))))) := by
  simp only [mappend, mwith, h0, if_true, mbind, h, hx, if_pos hl]
theorem init_ok {h : PyData} (n : φ_need_house [.val h] = some (.ok .none [.val h])) : φ_Book___init__ [.own (.ins 0 []), .val h] = some (.ok .none [.own (.ins 0 [("home", .val h), ("sat", .own (.lst []))]), .val h]) := by
  show fnPhi 0 m_Book___init__ _ = _
  unfold fnPhi m_Book___init__
  have e : (mcall 1 φ_need_house (mcons (mvar 1) (mnil))) ([Slot.own (.ins 0 []), .val h] ++ List.replicate 0 .no) = some (.ok .none [.own (.ins 0 []), .val h]) := ev_call (ev_cons rfl rfl) rfl n
  simp only [sseq, sexpr, sbind, e, snext]
  rfl
theorem sit_no {h T : PyData} (e : φ_need_seating [.val h, .val T] = some (.ex 3 [.val h, .val T])) : φ_Book_sit [.own (.ins 0 [("home", .val h), ("sat", .own (.lst []))]), .val T] = some (.ex 3 [.own (.ins 0 [("home", .val h), ("sat", .own (.lst []))]), .val T]) := by
  show fnPhi 0 m_Book_sit _ = _
  unfold fnPhi m_Book_sit
  have e1 : (mcall 2 φ_need_seating (mcons (mfld 0 0 "home") (mcons (mvar 1) (mnil)))) ([Slot.own (.ins 0 [("home", .val h), ("sat", .own (.lst []))]), .val T] ++ List.replicate 0 .no) = some (.ex 3 [.own (.ins 0 [("home", .val h), ("sat", .own (.lst []))]), .val T]) := ev_callX (ev_cons rfl (ev_cons rfl rfl)) rfl e
  simp only [sseq, sexpr, sbind, e1]
  rfl
theorem ev_new {ms : M (List PyData)} {δ δ1 : List Slot} {ds : List PyData} {c c' n : Nat} {φ : Phi} {fs : List (Str × Fld)} {ss : List Slot} (h : ms δ = some (.ok ds δ1)) (hn : ds.length + 1 = n) (e : φ (.own (.ins c []) :: ds.map .val) = some (.ok .none (.own (.ins c' fs) :: ss))) : mnew c n φ ms δ = some (.ok (c', fs) δ1) := by
  simp only [mnew, mbind, h, hn, if_true, e]
theorem ev_methX {mn : M Inst} {ms : M (List PyData)} {δ δ1 δ2 : List Slot} {ds : List PyData} {c n k : Nat} {m : Str} {φ : Phi} {fs : List (Str × Fld)} {ss : List Slot} (h1 : mn δ = some (.ok (c, fs) δ1)) (hm : (fs.lookup m).isNone = true) (h2 : ms δ1 = some (.ok ds δ2)) (hn : ds.length + 1 = n) (e : φ (.own (.ins c fs) :: ds.map .val) = some (.ex k ss)) :
    mmethN c n m φ mn ms δ = some (.ex k δ2) := by
  simp only [mmethN, mbind, h1, hm, and_self, if_true, h2, hn, e]
theorem case_ok {h T : PyData} {S : List PyData} {q : Bool} (H : House h S) (t : Thing T (goodB T)) (hq : goodB T = true → inD T (.list S) = some (.bool q)) (hf : (goodB T && q) = false) (s0 d f x4 x5 x6 x7 x8 x9 x10 x11 x12 x14 : Slot) :
    ∃ y14, mCase (fr s0 d (.val h) f x4 x5 x6 x7 x8 x9 x10 x11 x12 (.val T) x14) = some (.nx (fr s0 d (.val h) f x4 x5 x6 x7 x8 x9 x10 x11 x12 (.val T) y14)) := by
  have e3 := needSeat_no H t hq hf
  have A0 : ca0 (fr s0 d (.val h) f x4 x5 x6 x7 x8 x9 x10 x11 x12 (.val T) x14) = some (.nx (fr s0 d (.val h) f x4 x5 x6 x7 x8 x9 x10 x11 x12 (.val T) (.own (.b (.lst [.tuple [.str "refused", .str "BadSeating"]]))))) :=
    (st_setO (ev_Lst (xs := [.tuple [.str "refused", .str "BadSeating"]]) (ev_cons (ev_told (ev_callX (n := 4) (ds := [h, T, .none, .none]) (ev_cons rfl (ev_cons rfl (ev_cons rfl (ev_cons rfl rfl)))) rfl (together_no H.need e3)) term3) rfl) (by decide))).trans rfl
  have A1 : ca1 (fr s0 d (.val h) f x4 x5 x6 x7 x8 x9 x10 x11 x12 (.val T) (.own (.b (.lst [.tuple [.str "refused", .str "BadSeating"]])))) = some (.nx (fr s0 d (.val h) f x4 x5 x6 x7 x8 x9 x10 x11 x12 (.val T) (.own (.b (.lst [.tuple [.str "refused", .str "BadSeating"], .tuple [.str "refused", .str "BadSeating"]]))))) :=
    (st_expr (ev_app (xs := [.tuple [.str "refused", .str "BadSeating"]]) rfl (ev_told (ev_callX (n := 2) (ds := [h, T]) (ev_cons rfl (ev_cons rfl rfl)) rfl (text_no H.need e3)) term3) rfl (by decide))).trans rfl
  have A2 : ca2 (fr s0 d (.val h) f x4 x5 x6 x7 x8 x9 x10 x11 x12 (.val T) (.own (.b (.lst [.tuple [.str "refused", .str "BadSeating"], .tuple [.str "refused", .str "BadSeating"]])))) = some (.nx (fr s0 d (.val h) f x4 x5 x6 x7 x8 x9 x10 x11 x12 (.val T) (.own (.b (.lst [.tuple [.str "refused", .str "BadSeating"], .tuple [.str "refused", .str "BadSeating"], .tuple [.str "refused", .str "BadSeating"]]))))) :=
    (st_expr (ev_app (xs := [.tuple [.str "refused", .str "BadSeating"], .tuple [.str "refused", .str "BadSeating"]]) rfl (ev_told (ev_methX (n := 2) (ds := [T]) (ev_new (n := 2) (ds := [h]) (ev_cons rfl rfl) rfl (init_ok H.need)) (by kernel_rfl) (ev_cons rfl rfl) rfl (sit_no e3)) term3) rfl (by decide))).trans rfl
  have ei := isSeat_ev H t hq
  rw [hf] at ei
  have A3 : ca3 (fr s0 d (.val h) f x4 x5 x6 x7 x8 x9 x10 x11 x12 (.val T) (.own (.b (.lst [.tuple [.str "refused", .str "BadSeating"], .tuple [.str "refused", .str "BadSeating"], .tuple [.str "refused", .str "BadSeating"]])))) = some (.nx (fr s0 d (.val h) f x4 x5 x6 x7 x8 x9 x10 x11 x12 (.val T) (.own (.b (.lst [.tuple [.str "refused", .str "BadSeating"], .tuple [.str "refused", .str "BadSeating"], .tuple [.str "refused", .str "BadSeating"]]))))) :=
    st_ifF (ev_or2 (ev_test (ev_m2 (ev_call (ev_cons rfl (ev_cons rfl rfl)) rfl ei) rfl (show isNotD (.bool false) (.bool false) = some (.bool false) by kernel_rfl))) (ev_test (by kernel_rfl))) rfl
  refine ⟨.own (.b (.lst [.tuple [.str "refused", .str "BadSeating"], .tuple [.str "refused", .str "BadSeating"], .tuple [.str "refused", .str "BadSeating"]])), ?_⟩
  unfold mCase
  exact st_seq A0 (st_seq A1 (st_seq A2 A3))
end K02

namespace K02
open PySem PySem.Spec L2 RH
def cases8 : List PyData := [.none, .int 5, .tuple [], .tuple [nA], .tuple [.tuple [nA, nB]], .tuple [.tuple [.int 1, .int 2]], .tuple [.tuple [nA], .tuple [nB], .tuple [nC], .tuple [.str "zed"]], nA]
def okNo (S : List PyData) (T : PyData) : Bool := match inD T (.list S) with
  | some (.bool q) => !(goodB T && q)
  | _ => false
def okYes (S : List PyData) (T : PyData) : Bool := match inD T (.list S) with
  | some (.bool q) => goodB T && q
  | _ => false
def chkC (b : Bool) (i : Nat) : Bool := (List.range (sz b)).all fun r => (List.range (sz b)).all fun s => cases8.all (okNo (Sl b (r + 1) (s + 1) (apI b i))) && ((Sl b (r + 1) (s + 1) (apI b i)).take 2).all (okYes (Sl b (r + 1) (s + 1) (apI b i)))
theorem chkC_false_0 : chkC false 0 = true := by kernel_rfl
theorem chkC_false_1 : chkC false 1 = true := by kernel_rfl
theorem chkC_false_2 : chkC false 2 = true := by kernel_rfl
theorem chkC_false_3 : chkC false 3 = true := by kernel_rfl
theorem allC_false : ∀ i : Nat, i < 4 → chkC false i = true
  | 0, _ => chkC_false_0
  | 1, _ => chkC_false_1
  | 2, _ => chkC_false_2
  | 3, _ => chkC_false_3
  | i + 4, h => absurd h (by omega)
theorem chkC_true_0 : chkC true 0 = true := by kernel_rfl
theorem chkC_true_1 : chkC true 1 = true := by kernel_rfl
theorem chkC_true_2 : chkC true 2 = true := by kernel_rfl
theorem chkC_true_3 : chkC true 3 = true := by kernel_rfl
theorem chkC_true_4 : chkC true 4 = true := by kernel_rfl
theorem chkC_true_5 : chkC true 5 = true := by kernel_rfl
theorem chkC_true_6 : chkC true 6 = true := by kernel_rfl
theorem allC_true : ∀ i : Nat, i < 7 → chkC true i = true
  | 0, _ => chkC_true_0
  | 1, _ => chkC_true_1
  | 2, _ => chkC_true_2
  | 3, _ => chkC_true_3
  | 4, _ => chkC_true_4
  | 5, _ => chkC_true_5
  | 6, _ => chkC_true_6
  | i + 7, h => absurd h (by omega)
theorem allC (b : Bool) (i : Nat) (h : i < (aps b).length) : chkC b i = true := by
  cases b
  · exact allC_false i h
  · exact allC_true i h
theorem things8 : ∀ T ∈ cases8, Thing T (goodB T) := by
  intro T hT
  refine thing_of (fun hh => ?_) (fun hh => ?_)
  · rcases (by simpa [cases8] using hT) with rfl | rfl | rfl | rfl | rfl | rfl | rfl | rfl <;> first | exact absurd hh (by decide) | (intro h; kernel_rfl)
  · rcases (by simpa [cases8] using hT) with rfl | rfl | rfl | rfl | rfl | rfl | rfl | rfl <;> first | exact absurd hh (by decide) | rfl
theorem ctx_ok {b : Bool} {r s : Nat} {ap : List PyData} (r1 : 1 ≤ r) (r2 : r ≤ sz b) (s1 : 1 ≤ s) (s2 : s ≤ sz b) (ha : ap ∈ aps b) : Ctx b (Hs b r s ap) (Sl b r s ap) := by
  refine ⟨house_ok r1 r2 s1 s2 ha, name_ok b r s ap, fun g hg T hT => ?_⟩
  obtain ⟨i, hi, rfl⟩ := all_i b ap ha
  have h1 := List.all_eq_true.mp (List.all_eq_true.mp (List.all_eq_true.mp (List.all_eq_true.mp (allV b i hi) (r - 1) (List.mem_range.mpr (by omega))) (s - 1) (List.mem_range.mpr (by omega))) g hg) T hT
  rw [show r - 1 + 1 = r by omega, show s - 1 + 1 = s by omega] at h1
  unfold okIn at h1
  split at h1
  · rename_i q e
    refine ⟨q, e, ?_⟩
    cases q <;> cases hgb : goodB T <;> simp_all
  · cases h1
end K02

namespace K02
open PySem PySem.Spec L2 RH
theorem seat1_ok {h T x : PyData} (n : φ_need_house [.val h] = some (.ok .none [.val h])) (e : φ_need_seating [.val h, .val T] = some (.ok .none [.val h, .val T])) (ea : φ_need_name [.val h, .val nA] = some (.ok .none [.val h, .val nA])) (ex : φ_need_name [.val h, .val x] = some (.ex 2 [.val h, .val x]))
    (s0 d f x4 x5 x6 x8 x9 x10 x11 x12 x14 : Slot) : ∃ y14, mSeat1 (fr s0 d (.val h) f x4 x5 x6 (.val T) x8 x9 x10 x11 x12 (.val x) x14) = some (.nx (fr s0 d (.val h) f x4 x5 x6 (.val T) x8 x9 x10 x11 x12 (.val x) y14)) := by
  have A0 : se0 (fr s0 d (.val h) f x4 x5 x6 (.val T) x8 x9 x10 x11 x12 (.val x) x14) = some (.nx (fr s0 d (.val h) f x4 x5 x6 (.val T) x8 x9 x10 x11 x12 (.val x) (.own (.b (.lst [.tuple [.str "refused", .str "BadName"]]))))) :=
    (st_setO (ev_Lst (xs := [.tuple [.str "refused", .str "BadName"]]) (ev_cons (ev_told (ev_callX (n := 4) (ds := [h, T, x, .none]) (ev_cons rfl (ev_cons rfl (ev_cons rfl (ev_cons rfl rfl)))) rfl (together_n1 n e ex)) term2) rfl) (by decide))).trans rfl
  have A1 : se1 (fr s0 d (.val h) f x4 x5 x6 (.val T) x8 x9 x10 x11 x12 (.val x) (.own (.b (.lst [.tuple [.str "refused", .str "BadName"]])))) = some (.nx (fr s0 d (.val h) f x4 x5 x6 (.val T) x8 x9 x10 x11 x12 (.val x) (.own (.b (.lst [.tuple [.str "refused", .str "BadName"], .tuple [.str "refused", .str "BadName"]]))))) :=
    (st_expr (ev_app (xs := [.tuple [.str "refused", .str "BadName"]]) rfl (ev_told (ev_callX (n := 4) (ds := [h, T, nA, x]) (ev_cons rfl (ev_cons rfl (ev_cons rfl (ev_cons rfl rfl)))) rfl (together_n2 n e ea ex)) term2) rfl (by decide))).trans rfl
  have A2 : se2 (fr s0 d (.val h) f x4 x5 x6 (.val T) x8 x9 x10 x11 x12 (.val x) (.own (.b (.lst [.tuple [.str "refused", .str "BadName"], .tuple [.str "refused", .str "BadName"]])))) = some (.nx (fr s0 d (.val h) f x4 x5 x6 (.val T) x8 x9 x10 x11 x12 (.val x) (.own (.b (.lst [.tuple [.str "refused", .str "BadName"], .tuple [.str "refused", .str "BadName"]]))))) :=
    st_ifF (ev_test (by kernel_rfl)) rfl
  refine ⟨.own (.b (.lst [.tuple [.str "refused", .str "BadName"], .tuple [.str "refused", .str "BadName"]])), ?_⟩
  unfold mSeat1
  exact st_seq A0 (st_seq A1 A2)
theorem seat_ok {h T : PyData} (n : φ_need_house [.val h] = some (.ok .none [.val h])) (e : φ_need_seating [.val h, .val T] = some (.ok .none [.val h, .val T])) (ea : φ_need_name [.val h, .val nA] = some (.ok .none [.val h, .val nA])) (ex : ∀ x ∈ badNames, φ_need_name [.val h, .val x] = some (.ex 2 [.val h, .val x]))
    (s0 d f x4 x5 x6 x8 x9 x10 x11 x12 x13 x14 : Slot) : ∃ y13 y14, mSeat (fr s0 d (.val h) f x4 x5 x6 (.val T) x8 x9 x10 x11 x12 x13 x14) = some (.nx (fr s0 d (.val h) f x4 x5 x6 (.val T) x8 x9 x10 x11 x12 y13 y14)) := by
  obtain ⟨δ2, e2, y13, y14, rfl⟩ := st_loop (t := .nm 13) (mb := mSeat1) (fun _ δ => ∃ z13 z14, δ = fr s0 d (.val h) f x4 x5 x6 (.val T) x8 x9 x10 x11 x12 z13 z14) badNames _ ⟨x13, x14, rfl⟩ fun x hx n' δ hδ => by
    obtain ⟨z13, z14, rfl⟩ := hδ
    obtain ⟨y14, q⟩ := seat1_ok n e ea (ex x hx) s0 d f x4 x5 x6 x8 x9 x10 x11 x12 z14
    exact ⟨_, _, rfl, q, .val x, y14, rfl⟩
  exact ⟨y13, y14, e2⟩
end K02

namespace K02
open PySem PySem.Spec L2 RH
def neNo (S : List PyData) : Bool := match neD (.list S) (.list S) with
  | some (.bool q) => !q
  | _ => false
def chkN (b : Bool) : Bool := overH b fun r s ap => neNo (Sl b r s ap)
theorem chkN_t (b : Bool) : chkN b = true := by
  cases b
  · kernel_rfl
  · kernel_rfl
theorem ne_S {b : Bool} {r s : Nat} {ap : List PyData} (r1 : 1 ≤ r) (r2 : r ≤ sz b) (s1 : 1 ≤ s) (s2 : s ≤ sz b) (ha : ap ∈ aps b) : neD (.list (Sl b r s ap)) (.list (Sl b r s ap)) = some (.bool false) := by
  have h := overH_at (chkN_t b) r1 r2 s1 s2 ha
  unfold neNo at h
  split at h
  · rename_i q e
    cases q
    · exact e
    · cases h
  · cases h
theorem seatings_ok {h : PyData} {S : List PyData} (H : House h S) : φ_seatings [.val h] = some (.ok (.list S) [.val h]) := by
  refine phiV_rt (as := [h]) (k := 0) (δ := [.val h]) ?_
  unfold m_seatings
  exact st_seq (st_expr (ev_call (ev_cons rfl rfl) rfl H.need)) (st_ret (ev_call (ev_cons rfl rfl) rfl H.all))
end K02

namespace K02
open PySem PySem.Spec L2 RH
theorem h_free (b : Bool) : House (Hs b (sz b) (sz b) []) ((base b).map seatT) := by
  have h1 : 1 ≤ sz b := by cases b <;> decide
  have := house_ok (b := b) h1 (Nat.le_refl _) h1 (Nat.le_refl _) (List.mem_cons_self : [] ∈ aps b)
  rw [free_eq] at this
  exact this
theorem st_for {mi : M (List PyData)} {t : Tg} {mb : MS} {δ δ1 : List Slot} {ds : List PyData} {r : Option SR} (h : mi δ = some (.ok ds δ1)) (e : sloop t mb ds δ1 = r) : sfor mi t mb δ = r := by
  simp only [sfor, sbind, h, e]
theorem ev_src {m : M PyData} {δ δ1 : List Slot} {d : PyData} {ds : List PyData} (h : m δ = some (.ok d δ1)) (e : itemsD d = some ds) : msrc m δ = some (.ok ds δ1) := by
  simp only [msrc, mbind, h, e, mlift]
theorem cut2 (S : List PyData) : cutL S none (some 2) = S.take 2 := by
  unfold cutL
  show (S.drop 0).take (min 2 S.length - 0) = S.take 2
  rw [List.drop_zero, Nat.sub_zero, List.take_eq_take_iff]
  omega
theorem body_ok {n : Nat} {c k : Int} (D : Dice (n + 18) c k) (s0 x2 x3 x4 x5 x6 x7 x8 x9 x10 x11 x12 x13 x14 : Slot) :
    ∃ δ, mBody (fr s0 (dice c k) x2 x3 x4 x5 x6 x7 x8 x9 x10 x11 x12 x13 x14) = some (.nx δ) ∧ ∃ z1 z2 z3 z4 z5 z6 z7 z8 z9 z10 z11 z12 z13 z14, δ = fr s0 z1 z2 z3 z4 z5 z6 z7 z8 z9 z10 z11 z12 z13 z14 := by
  obtain ⟨b, r, s, ap, c1, k1, e1, r1, r2, s1, s2, ha, D1⟩ := any_house D
  have X := ctx_ok r1 r2 s1 s2 ha
  have hne := ne_S r1 r2 s1 s2 ha
  generalize hS : Sl b r s ap = S at *
  have B0 : bo0 (fr s0 (dice c k) x2 x3 x4 x5 x6 x7 x8 x9 x10 x11 x12 x13 x14) = some (.nx (fr s0 (dice c1 k1) (.val (Hs b r s ap)) x3 x4 x5 x6 x7 x8 x9 x10 x11 x12 x13 x14)) :=
    st_asg (ev_callO (n := 1) (ds := []) rfl rfl rfl rfl e1) rfl
  have B1 : bo1 (fr s0 (dice c1 k1) (.val (Hs b r s ap)) x3 x4 x5 x6 x7 x8 x9 x10 x11 x12 x13 x14) = some (.nx (fr s0 (dice c1 k1) (.val (Hs b r s ap)) (.val (.tuple (folk b))) (.val (.list S)) x5 x6 x7 x8 x9 x10 x11 x12 x13 x14)) :=
    st_par (ev_cval (ev_m2 rfl rfl (z := .tuple (folk b)) rfl) (ev_cval (ev_call (ev_cons rfl rfl) rfl X.H.lawAll) rfl)) rfl rfl
  have B2 : bo2 (fr s0 (dice c1 k1) (.val (Hs b r s ap)) (.val (.tuple (folk b))) (.val (.list S)) x5 x6 x7 x8 x9 x10 x11 x12 x13 x14) = some (.nx (fr s0 (dice c1 k1) (.val (Hs b r s ap)) (.val (.tuple (folk b))) (.val (.list S)) x5 x6 x7 x8 x9 x10 x11 x12 x13 x14)) :=
    st_ifF (ev_test (ev_m2 (ev_call (ev_cons rfl rfl) rfl (seatings_ok X.H)) rfl hne)) rfl
  have el : lenD [.tuple (folk b)] = some (.int (sz b : Nat)) := by cases b <;> rfl
  have B3 : bo3 (fr s0 (dice c1 k1) (.val (Hs b r s ap)) (.val (.tuple (folk b))) (.val (.list S)) x5 x6 x7 x8 x9 x10 x11 x12 x13 x14) = some (.nx (fr s0 (dice c1 k1) (.val (Hs b r s ap)) (.val (.tuple (folk b))) (.val (.list S)) x5 x6 x7 x8 x9 x10 x11 x12 x13 x14)) :=
    st_ifF (ev_test (ev_m2 (ev_L (ev_cons (ev_call (ev_cons (ev_L (ev_cons rfl (ev_cons (ev_L (ev_cons rfl rfl) el) (ev_cons (ev_L (ev_cons rfl rfl) el) (ev_cons rfl rfl)))) rfl) rfl) rfl (seatings_ok (h_free b))) rfl) rfl) (y := .int (((base b).map seatT).length : Nat)) (ev_m2 rfl (ev_m2 (ev_L (ev_cons rfl rfl) el) rfl rfl) (by cases b <;> rfl)) (by cases b <;> rfl))) rfl
  have B4 : ∃ c2 k2 y5 y6 y7 y8 y9 y10 y11, bo4 (fr s0 (dice c1 k1) (.val (Hs b r s ap)) (.val (.tuple (folk b))) (.val (.list S)) x5 x6 x7 x8 x9 x10 x11 x12 x13 x14) = some (.nx (fr s0 (dice c2 k2) (.val (Hs b r s ap)) (.val (.tuple (folk b))) (.val (.list S)) y5 y6 y7 y8 y9 y10 y11 x12 x13 x14)) := by
    obtain ⟨δ2, e2, c2, k2, y5, y6, y7, y8, y9, y10, y11, rfl, _⟩ := st_loop (t := .nm 5) (mb := mTurn) (fun m δ => ∃ c2 k2 y5 y6 y7 y8 y9 y10 y11, δ = fr s0 (dice c2 k2) (.val (Hs b r s ap)) (.val (.tuple (folk b))) (.val (.list S)) y5 y6 y7 y8 y9 y10 y11 x12 x13 x14 ∧ Dice (n + 2 * m) c2 k2) (rangeD 0 6) _ ⟨c1, k1, x5, x6, x7, x8, x9, x10, x11, rfl, D1⟩ fun d hd m δ hδ => by
      obtain ⟨c2, k2, y5, y6, y7, y8, y9, y10, y11, rfl, D2⟩ := hδ
      obtain ⟨c3, k3, z6, z7, z8, z9, z10, z11, q, D3⟩ := turn_ok X (n := n + 2 * m) D2 s0 (.val d) y6 y7 y8 y9 y10 y11 x12 x13 x14
      exact ⟨_, _, rfl, q, c3, k3, .val d, z6, z7, z8, z9, z10, z11, rfl, D3⟩
    exact ⟨c2, k2, y5, y6, y7, y8, y9, y10, y11, e2⟩
  obtain ⟨c2, k2, y5, y6, y7, y8, y9, y10, y11, B4⟩ := B4
  have B5 : bo5 (fr s0 (dice c2 k2) (.val (Hs b r s ap)) (.val (.tuple (folk b))) (.val (.list S)) y5 y6 y7 y8 y9 y10 y11 x12 x13 x14) = some (.nx (fr s0 (dice c2 k2) (.val (Hs b r s ap)) (.val (.tuple (folk b))) (.val (.list S)) y5 y6 y7 y8 y9 y10 y11 (.val (.list (cases8.take 6))) x13 x14)) := by kernel_rfl
  have B6 : bo6 (fr s0 (dice c2 k2) (.val (Hs b r s ap)) (.val (.tuple (folk b))) (.val (.list S)) y5 y6 y7 y8 y9 y10 y11 (.val (.list (cases8.take 6))) x13 x14) = some (.nx (fr s0 (dice c2 k2) (.val (Hs b r s ap)) (.val (.tuple (folk b))) (.val (.list S)) y5 y6 y7 y8 y9 y10 y11 (.val (.list cases8)) x13 x14)) := by kernel_rfl
  obtain ⟨i, hi, hap⟩ := all_i b ap ha
  have hC := List.all_eq_true.mp (List.all_eq_true.mp (allC b i hi) (r - 1) (List.mem_range.mpr (by omega))) (s - 1) (List.mem_range.mpr (by omega))
  rw [show r - 1 + 1 = r by omega, show s - 1 + 1 = s by omega, show apI b i = ap from hap, hS, Bool.and_eq_true] at hC
  have B7 : ∃ y13 y14, bo7 (fr s0 (dice c2 k2) (.val (Hs b r s ap)) (.val (.tuple (folk b))) (.val (.list S)) y5 y6 y7 y8 y9 y10 y11 (.val (.list cases8)) x13 x14) = some (.nx (fr s0 (dice c2 k2) (.val (Hs b r s ap)) (.val (.tuple (folk b))) (.val (.list S)) y5 y6 y7 y8 y9 y10 y11 (.val (.list cases8)) y13 y14)) := by
    obtain ⟨δ2, e2, y13, y14, rfl⟩ := st_loop (t := .nm 13) (mb := mCase) (fun _ δ => ∃ z13 z14, δ = fr s0 (dice c2 k2) (.val (Hs b r s ap)) (.val (.tuple (folk b))) (.val (.list S)) y5 y6 y7 y8 y9 y10 y11 (.val (.list cases8)) z13 z14) cases8 _ ⟨x13, x14, rfl⟩ fun T hT m δ hδ => by
      obtain ⟨z13, z14, rfl⟩ := hδ
      have h1 := List.all_eq_true.mp hC.1 T hT
      unfold okNo at h1
      split at h1
      · rename_i q e
        obtain ⟨y14, q2⟩ := case_ok X.H (things8 T hT) (fun _ => e) (by cases hg : goodB T <;> cases q <;> simp_all) s0 (dice c2 k2) (.val (.tuple (folk b))) (.val (.list S)) y5 y6 y7 y8 y9 y10 y11 (.val (.list cases8)) z14
        exact ⟨_, _, rfl, q2, .val T, y14, rfl⟩
      · cases h1
    exact ⟨y13, y14, e2⟩
  obtain ⟨y13, y14, B7⟩ := B7
  have B8 : ∃ z7 z13 z14, bo8 (fr s0 (dice c2 k2) (.val (Hs b r s ap)) (.val (.tuple (folk b))) (.val (.list S)) y5 y6 y7 y8 y9 y10 y11 (.val (.list cases8)) y13 y14) = some (.nx (fr s0 (dice c2 k2) (.val (Hs b r s ap)) (.val (.tuple (folk b))) (.val (.list S)) y5 y6 z7 y8 y9 y10 y11 (.val (.list cases8)) z13 z14)) := by
    obtain ⟨δ2, e2, z7, z13, z14, rfl⟩ := st_loop (t := .nm 7) (mb := mSeat) (fun _ δ => ∃ z7 z13 z14, δ = fr s0 (dice c2 k2) (.val (Hs b r s ap)) (.val (.tuple (folk b))) (.val (.list S)) y5 y6 z7 y8 y9 y10 y11 (.val (.list cases8)) z13 z14) (S.take 2) _ ⟨y7, y13, y14, rfl⟩ fun T hT m δ hδ => by
      obtain ⟨z7, z13, z14, rfl⟩ := hδ
      have h1 := List.all_eq_true.mp hC.2 T hT
      have hTS : T ∈ Sl b r s ap := by rw [hS]; exact List.mem_of_mem_take hT
      obtain ⟨g, hg, rfl⟩ := List.mem_map.mp hTS
      have tg := things b g (List.mem_filter.mp hg).1 (seatT g) List.mem_cons_self
      unfold okYes at h1
      split at h1
      · rename_i q e
        obtain ⟨w13, w14, q2⟩ := seat_ok X.H.need (needSeat_yes X.H tg (fun _ => e) h1) (X.en nA (by cases b <;> simp [folk])) (name_no b r s ap) s0 (dice c2 k2) (.val (.tuple (folk b))) (.val (.list S)) y5 y6 y8 y9 y10 y11 (.val (.list cases8)) z13 z14
        exact ⟨_, _, rfl, q2, _, w13, w14, rfl⟩
      · cases h1
    refine ⟨z7, z13, z14, ?_⟩
    exact st_for (ev_src (ev_sl (l := none) (h := some 2) rfl rfl rfl rfl) (ds := S.take 2) (show some (cutL S none (some 2)) = some (S.take 2) by rw [cut2])) e2
  obtain ⟨z7, z13, z14, B8⟩ := B8
  have B9 : mBody (fr s0 (dice c k) x2 x3 x4 x5 x6 x7 x8 x9 x10 x11 x12 x13 x14) = _ := st_seq B0 (st_seq B1 (st_seq B2 (st_seq B3 (st_seq B4 (st_seq B5 (st_seq B6 (st_seq B7 B8)))))))
  exact ⟨_, B9, _, _, _, _, _, _, _, _, _, _, _, _, _, _, rfl⟩
end K02

namespace K02
open PySem PySem.Spec L2 RH
theorem law_true : ∀ ns : List Int, ns.length ≤ 63 → (∀ z ∈ ns, Builtin.Int.intBits z ≤ 1048576) → ∃ ss, φ_law [.val (.list (ns.map PyData.int))] = some (.ok (.bool true) ss) := by
  intro ns hl hb
  obtain ⟨xss, e, hx⟩ := rounds_ok hb hl (h := 5) (by decide) (by decide)
  obtain ⟨δ2, e2, z1, z2, z3, z4, z5, z6, z7, z8, z9, z10, z11, z12, z13, z14, rfl⟩ := st_loopO (i := 1) (mb := mBody) (fun δ => ∃ z1 z2 z3 z4 z5 z6 z7 z8 z9 z10 z11 z12 z13 z14, δ = fr (.val (.list (ns.map PyData.int))) z1 z2 z3 z4 z5 z6 z7 z8 z9 z10 z11 z12 z13 z14) xss
    (fr (.val (.list (ns.map PyData.int))) .no .no .no .no .no .no .no .no .no .no .no .no .no .no) ⟨_, _, _, _, _, _, _, _, _, _, _, _, _, _, rfl⟩ fun xs hxs δ hδ => by
      obtain ⟨z1, z2, z3, z4, z5, z6, z7, z8, z9, z10, z11, z12, z13, z14, rfl⟩ := hδ
      obtain ⟨c, rfl, hc⟩ := hx xs hxs
      exact body_ok (n := 100) (c := c) (k := 0) ⟨hc, by decide, by decide⟩ _ z2 z3 z4 z5 z6 z7 z8 z9 z10 z11 z12 z13 z14
  have er : mcallR 2 φ__law_rounds (mcons (mvar 0) (mcons (mpure (.int 5)) (mnil))) (fr (.val (.list (ns.map PyData.int))) .no .no .no .no .no .no .no .no .no .no .no .no .no .no) = some (.ok xss (fr (.val (.list (ns.map PyData.int))) .no .no .no .no .no .no .no .no .no .no .no .no .no .no)) := by
    have q : mcons (mvar 0) (mcons (mpure (.int 5)) (mnil)) (fr (.val (.list (ns.map PyData.int))) .no .no .no .no .no .no .no .no .no .no .no .no .no .no) = some (.ok [.list (ns.map PyData.int), .int 5] (fr (.val (.list (ns.map PyData.int))) .no .no .no .no .no .no .no .no .no .no .no .no .no .no)) := ev_cons rfl (ev_cons rfl rfl)
    simp only [mcallR, mbind, q]
    show (if 2 = 2 then _ else _) = _
    rw [if_pos rfl]
    show (match φ__law_rounds [.val (.list (ns.map PyData.int)), .val (.int 5)] with
      | some xss => some (Res.ok xss _)
      | none => none) = _
    rw [e]
  have em : m_law (fr (.val (.list (ns.map PyData.int))) .no .no .no .no .no .no .no .no .no .no .no .no .no .no) = some (.rt (.bool true) (fr (.val (.list (ns.map PyData.int))) z1 z2 z3 z4 z5 z6 z7 z8 z9 z10 z11 z12 z13 z14)) := by
    rw [m_law_eq]
    refine st_seq (δ1 := fr (.val (.list (ns.map PyData.int))) z1 z2 z3 z4 z5 z6 z7 z8 z9 z10 z11 z12 z13 z14) ?_ rfl
    simp only [sforR, sbind, er]
    exact e2
  exact ⟨_, phiV_rt (as := [.list (ns.map PyData.int)]) (k := 14) em⟩
end K02

open PySem PySem.W PyProof.Rows
set_option maxRecDepth 100000 in
set_option maxHeartbeats 0 in
theorem PySem.Challenge.cw_roomhours_k02_whole_seatings_holds : PySem.Challenge.rw_roomhours_k02_whole_seatings.Holds := by
  w_on; o_law; k_head; (case hw => w_witness2)
  k_fill
  refine LamX.walk_ofTs (l := PySem.Challenge.rw_roomhours_k02_whole_seatings) (n := 63) (k := 16) (x := "_law_script") (CX := fun w => L2N.CX PySem.Challenge.rw_roomhours_k02_whole_seatings.prog w) rfl (by decide) rfl ⟨rfl, by decide, by decide⟩ (fun w h Y => PySem.W.km_in_of Y) ?F ?hCX
  case hCX => exact fun w H s e s' z => RH.cxN_no z
  case F =>
    intro w mg fa h Y KX G hmg
    refine' K02.fin K02.law_true KX G hmg ?hP ?aE0 ?aE1 ?aE2 ?aE3 ?aE4 ?aE5 ?aE6 ?aE7 ?aE8 ?aE9 ?aE10 ?aE11 ?aB_Book ?aL ?lL ?cL ?lc ?v11 ?hd ?np ?ktb ?z_len ?z_range ?z_enumerate ?z_zip ?z_all ?z_any ?z_sum ?z_min ?z_max ?z_abs ?z_sorted ?z_isinstance ?z_int ?z_bool ?z_str ?z_tuple ?z_list ?z_dict ?z_ValueError ?n_SMALL ?xF1 ?kF1 ?bF1 ?tF1 ?xF2 ?kF2 ?bF2 ?tF2 ?xF3 ?kF3 ?bF3 ?tF3 ?hg2 ?hk2 ?hd2 ?ha2 ?hm2 ?kv2 ?xm2 ?kt2_1 ?kt2_2 ?kt2_3 ?kt2_4 ?kt2_5 ?kt2_6 ?kt2_7 ?kt2_8 ?kt2_9 ?kt2_10 ?kt2_11 ?hg3 ?hk3 ?hd3 ?ha3 ?hm3 ?kv3 ?xm3 ?kt3_1 ?kt3_2 ?kt3_3 ?kt3_4 ?kt3_5 ?kt3_6 ?kt3_7 ?kt3_8 ?kt3_9 ?kt3_10 ?kt3_11 ?hn ?ht ?pg_Book ?hd_Book ?po_Book ?sa_Book ?nf_Book_home ?nf_Book_sat ?D_is_whole ?D_is_word ?D_rise ?D_two_by_two ?D_are_names ?D_is_house ?D_need_house ?D_partings ?D_is_let ?D_all_seatings ?D_seatings ?D_is_good_seating ?D_is_seating ?D_need_seating ?D_need_name ?D_do_sit ?D_together ?D_Book___init__ ?D_Book_sit ?D_seating_text ?D__law_cell ?D__law_drawn ?D__law_roll ?D__law_rounds ?D__law_term ?D__law_told ?D__law_pairs ?D__law_any_house ?D__law_all_seatings ?D__law_sit
    (case aE0 => k_is)
    (case aE1 => k_is)
    (case aE2 => k_is)
    (case aE3 => k_is)
    (case aE4 => k_is)
    (case aE5 => k_is)
    (case aE6 => k_is)
    (case aE7 => k_is)
    (case aE8 => k_is)
    (case aE9 => k_is)
    (case aE10 => k_is)
    (case aE11 => k_is)
    (case aB_Book => k_is)
    (case aL => k_is)
    (case lL => k_is)
    (case cL => k_is)
    (case lc => k_is)
    (case v11 => rfl)
    (case hP => exact PySem.W.km_tabs_of Y _ (by first | exact List.mem_cons_self | decide | simp))
    (case hd => kernel_rfl)
    (case np => kernel_rfl)
    (case ktb => kernel_rfl)
    (case z_len => k_is)
    (case z_range => k_is)
    (case z_enumerate => k_is)
    (case z_zip => k_is)
    (case z_all => k_is)
    (case z_any => k_is)
    (case z_sum => k_is)
    (case z_min => k_is)
    (case z_max => k_is)
    (case z_abs => k_is)
    (case z_sorted => k_is)
    (case z_isinstance => k_is)
    (case z_int => k_is)
    (case z_bool => k_is)
    (case z_str => k_is)
    (case z_tuple => k_is)
    (case z_list => k_is)
    (case z_dict => k_is)
    (case z_ValueError => k_is)
    (case n_SMALL => k_is)
    (case xF1 => k_exc)
    (case kF1 => k_is)
    (case bF1 => k_is)
    (case tF1 => k_is)
    (case xF2 => k_exc)
    (case kF2 => k_is)
    (case bF2 => k_is)
    (case tF2 => k_is)
    (case xF3 => k_exc)
    (case kF3 => k_is)
    (case bF3 => k_is)
    (case tF3 => k_is)
    (case hg2 => k_is)
    (case hk2 => k_is)
    (case hd2 => k_is)
    (case ha2 => k_is)
    (case hm2 => k_is)
    (case kv2 => kernel_rfl)
    (case xm2 => kernel_rfl)
    (case kt2_1 => kernel_rfl)
    (case kt2_2 => kernel_rfl)
    (case kt2_3 => kernel_rfl)
    (case kt2_4 => kernel_rfl)
    (case kt2_5 => kernel_rfl)
    (case kt2_6 => kernel_rfl)
    (case kt2_7 => kernel_rfl)
    (case kt2_8 => kernel_rfl)
    (case kt2_9 => kernel_rfl)
    (case kt2_10 => kernel_rfl)
    (case kt2_11 => kernel_rfl)
    (case hg3 => k_is)
    (case hk3 => k_is)
    (case hd3 => k_is)
    (case ha3 => k_is)
    (case hm3 => k_is)
    (case kv3 => kernel_rfl)
    (case xm3 => kernel_rfl)
    (case kt3_1 => kernel_rfl)
    (case kt3_2 => kernel_rfl)
    (case kt3_3 => kernel_rfl)
    (case kt3_4 => kernel_rfl)
    (case kt3_5 => kernel_rfl)
    (case kt3_6 => kernel_rfl)
    (case kt3_7 => kernel_rfl)
    (case kt3_8 => kernel_rfl)
    (case kt3_9 => kernel_rfl)
    (case kt3_10 => kernel_rfl)
    (case kt3_11 => kernel_rfl)
    (case hn => k_is)
    (case ht => k_is)
    (case pg_Book => k_is)
    (case hd_Book => k_is)
    (case po_Book => k_is)
    (case sa_Book => k_is)
    (case nf_Book_home => k_is)
    (case nf_Book_sat => k_is)
    (case D_is_whole => refine' RH.defF_mk KX G ?a ?l ?c ?k ?bd; (case a => k_is); (case l => k_is); (case c => k_is); (case k => k_is); (case bd => exact fun F => F.binds fun _ _ _ _ _ _ us hl => match us, hl with | [_, _, _], _ => rfl))
    (case D_is_word => refine' RH.defF_mk KX G ?a ?l ?c ?k ?bd; (case a => k_is); (case l => k_is); (case c => k_is); (case k => k_is); (case bd => exact fun F => F.binds fun _ _ _ _ _ _ us hl => match us, hl with | [_], _ => rfl))
    (case D_rise => refine' RH.defF_mk KX G ?a ?l ?c ?k ?bd; (case a => k_is); (case l => k_is); (case c => k_is); (case k => k_is); (case bd => exact fun F => F.binds fun _ _ _ _ _ _ us hl => match us, hl with | [_], _ => rfl))
    (case D_two_by_two => refine' RH.defF_mk KX G ?a ?l ?c ?k ?bd; (case a => k_is); (case l => k_is); (case c => k_is); (case k => k_is); (case bd => exact fun F => F.binds fun _ _ _ _ _ _ us hl => match us, hl with | [_], _ => rfl))
    (case D_are_names => refine' RH.defF_mk KX G ?a ?l ?c ?k ?bd; (case a => k_is); (case l => k_is); (case c => k_is); (case k => k_is); (case bd => exact fun F => F.binds fun _ _ _ _ _ _ us hl => match us, hl with | [_], _ => rfl))
    (case D_is_house => refine' RH.defF_mk KX G ?a ?l ?c ?k ?bd; (case a => k_is); (case l => k_is); (case c => k_is); (case k => k_is); (case bd => exact fun F => F.binds fun _ _ _ _ _ _ us hl => match us, hl with | [_], _ => rfl))
    (case D_need_house => refine' RH.defF_mk KX G ?a ?l ?c ?k ?bd; (case a => k_is); (case l => k_is); (case c => k_is); (case k => k_is); (case bd => exact fun F => F.binds fun _ _ _ _ _ _ us hl => match us, hl with | [_], _ => rfl))
    (case D_partings => refine' RH.defF_mk KX G ?a ?l ?c ?k ?bd; (case a => k_is); (case l => k_is); (case c => k_is); (case k => k_is); (case bd => exact fun F => F.binds fun _ _ _ _ _ _ us hl => match us, hl with | [_], _ => rfl))
    (case D_is_let => refine' RH.defF_mk KX G ?a ?l ?c ?k ?bd; (case a => k_is); (case l => k_is); (case c => k_is); (case k => k_is); (case bd => exact fun F => F.binds fun _ _ _ _ _ _ us hl => match us, hl with | [_, _], _ => rfl))
    (case D_all_seatings => refine' RH.defF_mk KX G ?a ?l ?c ?k ?bd; (case a => k_is); (case l => k_is); (case c => k_is); (case k => k_is); (case bd => exact fun F => F.binds fun _ _ _ _ _ _ us hl => match us, hl with | [_], _ => rfl))
    (case D_seatings => refine' RH.defF_mk KX G ?a ?l ?c ?k ?bd; (case a => k_is); (case l => k_is); (case c => k_is); (case k => k_is); (case bd => exact fun F => F.binds fun _ _ _ _ _ _ us hl => match us, hl with | [_], _ => rfl))
    (case D_is_good_seating => refine' RH.defF_mk KX G ?a ?l ?c ?k ?bd; (case a => k_is); (case l => k_is); (case c => k_is); (case k => k_is); (case bd => exact fun F => F.binds fun _ _ _ _ _ _ us hl => match us, hl with | [_, _], _ => rfl))
    (case D_is_seating => refine' RH.defF_mk KX G ?a ?l ?c ?k ?bd; (case a => k_is); (case l => k_is); (case c => k_is); (case k => k_is); (case bd => exact fun F => F.binds fun _ _ _ _ _ _ us hl => match us, hl with | [_, _], _ => rfl))
    (case D_need_seating => refine' RH.defF_mk KX G ?a ?l ?c ?k ?bd; (case a => k_is); (case l => k_is); (case c => k_is); (case k => k_is); (case bd => exact fun F => F.binds fun _ _ _ _ _ _ us hl => match us, hl with | [_, _], _ => rfl))
    (case D_need_name => refine' RH.defF_mk KX G ?a ?l ?c ?k ?bd; (case a => k_is); (case l => k_is); (case c => k_is); (case k => k_is); (case bd => exact fun F => F.binds fun _ _ _ _ _ _ us hl => match us, hl with | [_, _], _ => rfl))
    (case D_do_sit => refine' RH.defF_mk KX G ?a ?l ?c ?k ?bd; (case a => k_is); (case l => k_is); (case c => k_is); (case k => k_is); (case bd => exact fun F => F.binds fun _ _ _ _ _ _ us hl => match us, hl with | [_, _], _ => rfl))
    (case D_together => refine' RH.defF_mk KX G ?a ?l ?c ?k ?bd; (case a => k_is); (case l => k_is); (case c => k_is); (case k => k_is); (case bd => exact fun F => F.binds fun _ _ _ _ _ _ us hl => match us, hl with | [_, _, _, _], _ => rfl))
    (case D_Book___init__ => refine' RH.defI_mk KX G ?a ?mk ?kc ?b ?i ?l ?c ?k ?bd; (case a => k_is); (case mk => k_is); (case kc => k_is); (case b => k_is); (case i => k_is); (case l => k_is); (case c => k_is); (case k => k_is); (case bd => exact fun F => F.binds fun _ _ _ _ _ _ us hl => match us, hl with | [_, _], _ => rfl))
    (case D_Book_sit => refine' RH.defM_mk ?b ?i ?l ?c ?k ?bd; (case b => k_is); (case i => k_is); (case l => k_is); (case c => k_is); (case k => k_is); (case bd => exact fun F => F.binds fun _ _ _ _ _ _ us hl => match us, hl with | [_, _], _ => rfl))
    (case D_seating_text => refine' RH.defF_mk KX G ?a ?l ?c ?k ?bd; (case a => k_is); (case l => k_is); (case c => k_is); (case k => k_is); (case bd => exact fun F => F.binds fun _ _ _ _ _ _ us hl => match us, hl with | [_, _], _ => rfl))
    (case D__law_cell => refine' RH.defF_mk KX G ?a ?l ?c ?k ?bd; (case a => k_is); (case l => k_is); (case c => k_is); (case k => k_is); (case bd => exact fun F => F.binds fun _ _ _ _ _ _ us hl => match us, hl with | [_, _], _ => rfl))
    (case D__law_drawn => refine' RH.defF_mk KX G ?a ?l ?c ?k ?bd; (case a => k_is); (case l => k_is); (case c => k_is); (case k => k_is); (case bd => exact fun F => F.binds fun _ _ _ _ _ _ us hl => match us, hl with | [_, _], _ => rfl))
    (case D__law_roll => refine' RH.defF_mk KX G ?a ?l ?c ?k ?bd; (case a => k_is); (case l => k_is); (case c => k_is); (case k => k_is); (case bd => exact fun F => F.binds fun _ _ _ _ _ _ us hl => match us, hl with | [_, _], _ => rfl))
    (case D__law_rounds => refine' RH.defF_mk KX G ?a ?l ?c ?k ?bd; (case a => k_is); (case l => k_is); (case c => k_is); (case k => k_is); (case bd => exact fun F => F.binds fun _ _ _ _ _ _ us hl => match us, hl with | [_, _], _ => rfl))
    (case D__law_term => refine' RH.defF_mk KX G ?a ?l ?c ?k ?bd; (case a => k_is); (case l => k_is); (case c => k_is); (case k => k_is); (case bd => exact fun F => F.binds fun _ _ _ _ _ _ us hl => match us, hl with | [_], _ => rfl))
    (case D__law_told => refine' RH.defF_mk KX G ?a ?l ?c ?k ?bd; (case a => k_is); (case l => k_is); (case c => k_is); (case k => k_is); (case bd => exact fun F => F.binds fun _ _ _ _ _ _ us hl => match us, hl with | [_], _ => rfl))
    (case D__law_pairs => refine' RH.defF_mk KX G ?a ?l ?c ?k ?bd; (case a => k_is); (case l => k_is); (case c => k_is); (case k => k_is); (case bd => exact fun F => F.binds fun _ _ _ _ _ _ us hl => match us, hl with | [_], _ => rfl))
    (case D__law_any_house => refine' RH.defF_mk KX G ?a ?l ?c ?k ?bd; (case a => k_is); (case l => k_is); (case c => k_is); (case k => k_is); (case bd => exact fun F => F.binds fun _ _ _ _ _ _ us hl => match us, hl with | [_], _ => rfl))
    (case D__law_all_seatings => refine' RH.defF_mk KX G ?a ?l ?c ?k ?bd; (case a => k_is); (case l => k_is); (case c => k_is); (case k => k_is); (case bd => exact fun F => F.binds fun _ _ _ _ _ _ us hl => match us, hl with | [_], _ => rfl))
    (case D__law_sit => refine' RH.defF_mk KX G ?a ?l ?c ?k ?bd; (case a => k_is); (case l => k_is); (case c => k_is); (case k => k_is); (case bd => exact fun F => F.binds fun _ _ _ _ _ _ us hl => match us, hl with | [_, _], _ => rfl))
