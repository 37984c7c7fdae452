import PyProof.Rows.All
import Wide.All
import OpenK.AllK
import Wide.FinOn
import KE.KStateDown
import HandS.Head0
import HandS.Head1
import HandS.Head2
import HandS.HeadEnd
import HandS.HeadHook1
import HandS.HeadHook2
import HandS.ForMost
import HandS.Wide
import HandS.TupAny
import HandS.Style
import HandS.More
import HandS.IsInst
import KE.DataEq
import HandS.TupMul
import KE.KEqNest
import PyProof.ListStr
import HandS.TryOnly
import KE.KIntText
import HandS.Star
import HandS.CallRecv
import HandS.TupSets
import HandS.Finally
import HandS.DictTup
import KE.GoesMore
import KE.GoesZip
import HandS.Zip
import HandS.Codes
import HandS.SortKw
import KE.DataMinMax
import HandS.SetFor
import HandS.SetTxt0
import HandS.Comp
import HandS.Defaults
import HandS.EndBits
import PySem.Challenge.RW_notekeep_k33_whole_longer_runs
set_option Elab.async false
set_option Elab.async false
set_option linter.all false
set_option autoImplicit false
set_option maxRecDepth 100000
/-! NkA: data, values, objects, and how they stand in an abstract heap. -/
namespace NK
open PySem PySem.Spec L2
/-- a text as its codes -/
abbrev W := List Nat
def S (w : W) : Str := ⟨w.toArray⟩
theorem S_inj {a b : W} (h : S a = S b) : a = b := by
  have h1 : a.toArray = b.toArray := congrArg Str.cps h
  simpa using congrArg Array.toList h1
theorem S_iff {a b : W} : S a = S b ↔ a = b := ⟨S_inj, fun h => by rw [h]⟩
theorem S_len (a : W) : (S a).length = a.length := by simp [S, Str.length]
theorem S_app (a b : W) : S a ++ S b = S (a ++ b) := by
  show Str.append (S a) (S b) = S (a ++ b)
  simp [Str.append, S]
theorem S_cps (a : W) : (S a).cps.toList = a := by simp [S]
theorem S_of (s : Str) : S s.cps.toList = s := by cases s; simp [S]
/-- a dict's key -/
abbrev K1 := Sum Int W
def kk : K1 → Key
  | .inl i => .inl i
  | .inr w => .inr (S w)
theorem kk_inj {a b : K1} (h : kk a = kk b) : a = b := by
  cases a <;> cases b <;> simp [kk] at h ⊢
  · exact h
  · exact S_inj h
/-- plain data: what never changes any more -/
inductive D where
  | non | bl (b : Bool) | int (i : Int) | str (w : W)
  | tup (ds : List D) | lst (ds : List D)
  | dK (ks : List K1) (ds : List D) | dT (ks : List (List K1)) (ds : List D)
  | scr (ns : List Int)
/-- what a name holds: data, a list or dict that someone ahead owns, or a place of the store -/
inductive Val where
  | dat (d : D) | bor (d : D) | ref (l : Nat)
/-- what stands at a place of the store -/
inductive Obj where
  | lst (ds : List D) | dK (ks : List K1) (ds : List D) | dT (ks : List (List K1)) (ds : List D)
  | ins (c : Nat) (fs : List (W × Val)) | dead
def k2V : K1 → V
  | .inl i => .int i
  | .inr w => .str (S w)
theorem k2V_kV (k : K1) : k2V k = kV (kk k) := by cases k <;> rfl
section
variable (K : PySem.W.Frag) (F : Hp)
mutual
/-- the value u is the data d, all of it in F -/
def Den : D → V → Prop
  | .non, u => u = .non
  | .bl b, u => u = .bl b
  | .int i, u => u = .int i
  | .str w, u => u = .str (S w)
  | .tup ds, u => ∃ p us, u = .ref p ∧ F p = some (.tup us) ∧ Dens ds us
  | .lst ds, u => ∃ p us, u = .ref p ∧ F p = some (.lst us) ∧ Dens ds us
  | .dK ks ds, u => ∃ p us, u = .ref p ∧ Rd F p (.dK ((ks.map kk).zip us)) ∧ ks.length = ds.length ∧ Dens ds us
  | .dT ks ds, u => ∃ p us, u = .ref p ∧ Rd F p (.dT ((ks.map (·.map kk)).zip us)) ∧ ks.length = ds.length ∧ Dens ds us
  | .scr ns, u => ∃ p, u = .ref p ∧ SqL K F p (ns.map V.int)
def Dens : List D → List V → Prop
  | [], us => us = []
  | d :: ds, us => ∃ u us', us = u :: us' ∧ Den d u ∧ Dens ds us'
end
end
section
variable {K : PySem.W.Frag} {F F' : Hp}
theorem sqL_mono (h : ∀ a o, F a = some o → F' a = some o) {p : Addr} {us : List V} (q : SqL K F p us) : SqL K F' p us := by
  rcases q with (q | ⟨o, q⟩) | q
  · exact .inl (.inl (h _ _ q))
  · exact .inl (.inr ⟨o, h _ _ q⟩)
  · exact .inr q
theorem rd_mono (h : ∀ a o, F a = some o → F' a = some o) {p : Addr} {u : HO} (q : Rd F p u) : Rd F' p u := by
  rcases q with q | ⟨o, q⟩
  · exact .inl (h _ _ q)
  · exact .inr ⟨o, h _ _ q⟩
mutual
theorem Den.mono (h : ∀ a o, F a = some o → F' a = some o) : ∀ (d : D) (u : V), Den K F d u → Den K F' d u
  | .non, _, q => q
  | .bl _, _, q => q
  | .int _, _, q => q
  | .str _, _, q => q
  | .tup ds, u, q => by
    obtain ⟨p, us, e, a, b⟩ := (show ∃ p us, u = .ref p ∧ F p = some (.tup us) ∧ Dens K F ds us by simpa only [Den] using q)
    simp only [Den]
    exact ⟨p, us, e, h _ _ a, Dens.mono h ds us b⟩
  | .lst ds, u, q => by
    simp only [Den] at q ⊢
    obtain ⟨p, us, e, a, b⟩ := q
    exact ⟨p, us, e, h _ _ a, Dens.mono h ds us b⟩
  | .scr ns, u, q => by
    simp only [Den] at q ⊢
    obtain ⟨p, e, a⟩ := q
    exact ⟨p, e, sqL_mono h a⟩
  | .dK ks ds, u, q => by
    simp only [Den] at q ⊢
    obtain ⟨p, us, e, a, l, b⟩ := q
    exact ⟨p, us, e, rd_mono h a, l, Dens.mono h ds us b⟩
  | .dT ks ds, u, q => by
    simp only [Den] at q ⊢
    obtain ⟨p, us, e, a, l, b⟩ := q
    exact ⟨p, us, e, rd_mono h a, l, Dens.mono h ds us b⟩
theorem Dens.mono (h : ∀ a o, F a = some o → F' a = some o) : ∀ (ds : List D) (us : List V), Dens K F ds us → Dens K F' ds us
  | [], _, q => by simp only [Dens] at q ⊢; exact q
  | d :: ds, us, q => by
    simp only [Dens] at q ⊢
    obtain ⟨u, us', e, a, b⟩ := q
    exact ⟨u, us', e, Den.mono h d u a, Dens.mono h ds us' b⟩
end
theorem Dens.nil {us : List V} : Dens K F [] us ↔ us = [] := by simp only [Dens]
theorem Dens.cons {d : D} {ds : List D} {us : List V} : Dens K F (d :: ds) us ↔ ∃ u us', us = u :: us' ∧ Den K F d u ∧ Dens K F ds us' := by simp only [Dens]
theorem Dens.length : ∀ {ds : List D} {us : List V}, Dens K F ds us → us.length = ds.length
  | [], us, h => by rw [Dens.nil.mp h]; rfl
  | d :: ds, us, h => by
    obtain ⟨u, us', rfl, _, b⟩ := Dens.cons.mp h
    simp [Dens.length b]
theorem Dens.append : ∀ {ds es : List D} {us vs : List V}, Dens K F ds us → Dens K F es vs → Dens K F (ds ++ es) (us ++ vs)
  | [], _, us, vs, h, h' => by rw [Dens.nil.mp h]; simpa using h'
  | d :: ds, es, us, vs, h, h' => by
    obtain ⟨u, us', rfl, a, b⟩ := Dens.cons.mp h
    exact Dens.cons.mpr ⟨u, us' ++ vs, rfl, a, Dens.append b h'⟩
theorem Dens.get : ∀ {ds : List D} {us : List V} {i : Nat} {d : D}, Dens K F ds us → ds[i]? = some d → ∃ u, us[i]? = some u ∧ Den K F d u
  | [], us, i, d, h, e => by simp at e
  | d :: ds, us, 0, d', h, e => by
    obtain ⟨u, us', rfl, a, b⟩ := Dens.cons.mp h
    simp at e; subst e
    exact ⟨u, rfl, a⟩
  | d :: ds, us, i + 1, d', h, e => by
    obtain ⟨u, us', rfl, a, b⟩ := Dens.cons.mp h
    obtain ⟨w, e1, e2⟩ := Dens.get (i := i) (d := d') b (by simpa using e)
    exact ⟨w, by simpa using e1, e2⟩
theorem Dens.getV : ∀ {ds : List D} {us : List V} {i : Nat} {u : V}, Dens K F ds us → us[i]? = some u → ∃ d, ds[i]? = some d ∧ Den K F d u
  | [], us, i, d, h, e => by rw [Dens.nil.mp h] at e; simp at e
  | d :: ds, us, 0, d', h, e => by
    obtain ⟨u, us', rfl, a, b⟩ := Dens.cons.mp h
    simp at e; subst e
    exact ⟨d, rfl, a⟩
  | d :: ds, us, i + 1, d', h, e => by
    obtain ⟨u, us', rfl, a, b⟩ := Dens.cons.mp h
    obtain ⟨w, e1, e2⟩ := Dens.getV (i := i) b (by simpa using e)
    exact ⟨w, by simpa using e1, e2⟩
theorem Dens.take : ∀ {ds : List D} {us : List V} (n : Nat), Dens K F ds us → Dens K F (ds.take n) (us.take n)
  | ds, us, 0, _ => by simp [Dens]
  | [], us, n + 1, h => by rw [Dens.nil.mp h]; simp [Dens]
  | d :: ds, us, n + 1, h => by
    obtain ⟨u, us', rfl, a, b⟩ := Dens.cons.mp h
    exact Dens.cons.mpr ⟨u, us'.take n, rfl, a, Dens.take n b⟩
theorem Dens.drop : ∀ {ds : List D} {us : List V} (n : Nat), Dens K F ds us → Dens K F (ds.drop n) (us.drop n)
  | ds, us, 0, h => by simpa using h
  | [], us, n + 1, h => by rw [Dens.nil.mp h]; simp [Dens]
  | d :: ds, us, n + 1, h => by
    obtain ⟨u, us', rfl, a, b⟩ := Dens.cons.mp h
    simpa using Dens.drop n b
theorem Dens.set : ∀ {ds : List D} {us : List V} (i : Nat) {d : D} {u : V}, Den K F d u → Dens K F ds us → Dens K F (ds.set i d) (us.set i u)
  | [], us, i, d, u, _, h => by rw [Dens.nil.mp h]; simp [Dens]
  | e :: ds, us, 0, d, u, a, h => by
    obtain ⟨w, us', rfl, _, b⟩ := Dens.cons.mp h
    exact Dens.cons.mpr ⟨u, us', rfl, a, b⟩
  | e :: ds, us, i + 1, d, u, a, h => by
    obtain ⟨w, us', rfl, a', b⟩ := Dens.cons.mp h
    exact Dens.cons.mpr ⟨w, us'.set i u, rfl, a', Dens.set i a b⟩
theorem Dens.eraseIdx : ∀ {ds : List D} {us : List V} (i : Nat), Dens K F ds us → Dens K F (ds.eraseIdx i) (us.eraseIdx i)
  | [], us, i, h => by rw [Dens.nil.mp h]; simp [Dens]
  | e :: ds, us, 0, h => by
    obtain ⟨w, us', rfl, _, b⟩ := Dens.cons.mp h
    simpa using b
  | e :: ds, us, i + 1, h => by
    obtain ⟨w, us', rfl, a', b⟩ := Dens.cons.mp h
    exact Dens.cons.mpr ⟨w, us'.eraseIdx i, rfl, a', Dens.eraseIdx i b⟩
theorem Dens.reverse : ∀ {ds : List D} {us : List V}, Dens K F ds us → Dens K F ds.reverse us.reverse
  | [], us, h => by rw [Dens.nil.mp h]; simp [Dens]
  | d :: ds, us, h => by
    obtain ⟨u, us', rfl, a, b⟩ := Dens.cons.mp h
    rw [List.reverse_cons, List.reverse_cons]
    exact (Dens.reverse b).append (Dens.cons.mpr ⟨u, [], rfl, a, Dens.nil.mpr rfl⟩)
theorem Dens.dropLast {ds : List D} {us : List V} (h : Dens K F ds us) : Dens K F ds.dropLast us.dropLast := by
  rw [List.dropLast_eq_take, List.dropLast_eq_take, h.length]
  exact h.take _
theorem Dens.one {d : D} {u : V} (a : Den K F d u) : Dens K F [d] [u] := Dens.cons.mpr ⟨u, [], rfl, a, Dens.nil.mpr rfl⟩
theorem Den.tup_iff {ds : List D} {u : V} : Den K F (.tup ds) u ↔ ∃ p us, u = .ref p ∧ F p = some (.tup us) ∧ Dens K F ds us := by simp only [Den]
theorem Den.lst_iff {ds : List D} {u : V} : Den K F (.lst ds) u ↔ ∃ p us, u = .ref p ∧ F p = some (.lst us) ∧ Dens K F ds us := by simp only [Den]
theorem Den.dK_iff {ks : List K1} {ds : List D} {u : V} : Den K F (.dK ks ds) u ↔ ∃ p us, u = .ref p ∧ Rd F p (.dK ((ks.map kk).zip us)) ∧ ks.length = ds.length ∧ Dens K F ds us := by simp only [Den]
theorem Den.dT_iff {ks : List (List K1)} {ds : List D} {u : V} : Den K F (.dT ks ds) u ↔ ∃ p us, u = .ref p ∧ Rd F p (.dT ((ks.map (·.map kk)).zip us)) ∧ ks.length = ds.length ∧ Dens K F ds us := by simp only [Den]
theorem Den.scr_iff {ns : List Int} {u : V} : Den K F (.scr ns) u ↔ ∃ p, u = .ref p ∧ SqL K F p (ns.map V.int) := by simp only [Den]
theorem Den.int_iff {i : Int} {u : V} : Den K F (.int i) u ↔ u = .int i := by simp only [Den]
theorem Den.bl_iff {b : Bool} {u : V} : Den K F (.bl b) u ↔ u = .bl b := by simp only [Den]
theorem Den.str_iff {w : W} {u : V} : Den K F (.str w) u ↔ u = .str (S w) := by simp only [Den]
theorem Den.non_iff {u : V} : Den K F .non u ↔ u = .non := by simp only [Den]
end
/-- a list or dict on top in G, its items in F -/
def Top (K : PySem.W.Frag) (G F : Hp) : D → V → Prop
  | .lst ds, u => ∃ p us, u = .ref p ∧ G p = some (.lst us) ∧ Dens K F ds us
  | .dK ks ds, u => ∃ p us, u = .ref p ∧ Rd G p (.dK ((ks.map kk).zip us)) ∧ ks.length = ds.length ∧ Dens K F ds us
  | .dT ks ds, u => ∃ p us, u = .ref p ∧ Rd G p (.dT ((ks.map (·.map kk)).zip us)) ∧ ks.length = ds.length ∧ Dens K F ds us
  | _, _ => False
/-- a name's value: F what is frozen, B what is borrowed, as the places' addresses -/
def VOk (K : PySem.W.Frag) (F B : Hp) (as : List Addr) : Val → V → Prop
  | .dat d, u => Den K F d u
  | .bor d, u => Top K B F d u
  | .ref l, u => ∃ a, as[l]? = some a ∧ u = .ref a
/-- the attributes of an instance -/
def FsOk (K : PySem.W.Frag) (F B : Hp) (as : List Addr) (fs : List (W × Val)) (gs : List (Str × V)) : Prop := Paired (fun (p : W × Val) (q : Str × V) => q.1 = S p.1 ∧ VOk K F B as p.2 q.2) fs gs
/-- what stands at a place; cs: the classes' addresses -/
def OOk (K : PySem.W.Frag) (cs : Nat → Option Addr) (F B : Hp) (as : List Addr) : Obj → HO → Prop
  | .lst ds, o => ∃ us, o = .lst us ∧ Dens K F ds us
  | .dK ks ds, o => ∃ us, o = .dK ((ks.map kk).zip us) ∧ ks.length = ds.length ∧ Dens K F ds us
  | .dT ks ds, o => ∃ us, o = .dT ((ks.map (·.map kk)).zip us) ∧ ks.length = ds.length ∧ Dens K F ds us
  | .ins c fs, o => ∃ C dx gs, cs c = some C ∧ o = .ins C dx gs ∧ FsOk K F B as fs gs
  | .dead, _ => True
section
variable {K : PySem.W.Frag} {F B : Hp} {as : List Addr} {u : V}
theorem vint {i : Int} : VOk K F B as (.dat (.int i)) (.int i) := by simp only [VOk, Den]
theorem vbl {b : Bool} : VOk K F B as (.dat (.bl b)) (.bl b) := by simp only [VOk, Den]
theorem vstr {w : W} : VOk K F B as (.dat (.str w)) (.str (S w)) := by simp only [VOk, Den]
theorem vnon : VOk K F B as (.dat .non) .non := by simp only [VOk, Den]
theorem int_of {i : Int} (h : VOk K F B as (.dat (.int i)) u) : u = .int i := by simpa only [VOk, Den] using h
theorem bl_of {i : Bool} (h : VOk K F B as (.dat (.bl i)) u) : u = .bl i := by simpa only [VOk, Den] using h
theorem str_of {i : W} (h : VOk K F B as (.dat (.str i)) u) : u = .str (S i) := by simpa only [VOk, Den] using h
theorem non_of (h : VOk K F B as (.dat .non) u) : u = .non := by simpa only [VOk, Den] using h
end
abbrev Env := List (Option Val)
abbrev Sto := List Obj
structure RSt (K : PySem.W.Frag) (cs : Nat → Option Addr) (F B : Hp) (as : List Addr) (st : Sto) (H : Hp) : Prop where
  fh : ∀ a o, F a = some o → H a = some o
  bh : ∀ a o, B a = some o → H a = some o
  nd : as.Nodup
  len : as.length = st.length
  nb : ∀ a ∈ as, B a = none
  obj : ∀ (l : Nat) (a : Addr) (o : Obj), as[l]? = some a → st[l]? = some o → (o = .dead ∨ F a = none) ∧ ∃ ho, H a = some ho ∧ OOk K cs F B as o ho
structure Rel (K : PySem.W.Frag) (cs : Nat → Option Addr) (F B : Hp) (as : List Addr) (env : Env) (st : Sto) (σ : L2.St) (H : Hp) : Prop extends RSt K cs F B as st H where
  slot : ∀ (i : Nat) (v : Val), env[i]? = some (some v) → ∃ u, σ[i]? = some (some u) ∧ VOk K F B as v u
  elen : env.length = σ.length
/-- how the abstract heap goes on -/
structure Ext (F : Hp) (as : List Addr) (H F' : Hp) (as' : List Addr) (H' : Hp) : Prop where
  ff : ∀ a o, F a = some o → F' a = some o
  pre : as <+: as'
  fr : ∀ a o, H a = some o → a ∉ as → H' a = some o
  frA : ∀ a, a ∈ as → H' a ≠ none
  nf : ∀ a, F' a ≠ none → F a = none → H a = none ∨ a ∈ as
  na : ∀ a, a ∈ as' → a ∉ as → H a = none
theorem Ext.refl (F : Hp) (as : List Addr) (H : Hp) (h : ∀ a, a ∈ as → H a ≠ none) : Ext F as H F as H :=
  ⟨fun _ _ h => h, List.prefix_refl _, fun _ _ h _ => h, h, fun _ h h' => absurd h' h, fun _ h h' => absurd h h'⟩
theorem Ext.trans {F F1 F2 H H1 H2 : Hp} {as as1 as2 : List Addr} (a : Ext F as H F1 as1 H1) (b : Ext F1 as1 H1 F2 as2 H2) : Ext F as H F2 as2 H2 := by
  refine ⟨fun x o h => b.ff _ _ (a.ff _ _ h), a.pre.trans b.pre, fun x o h hn => ?_, fun x hx => b.frA x (a.pre.subset hx), fun x h2 h0 => ?_, fun x h2 h0 => ?_⟩
  · by_cases hx : x ∈ as1
    · have := a.na x hx hn
      rw [h] at this; cases this
    · exact b.fr _ _ (a.fr _ _ h hn) hx
  · by_cases h1 : F1 x = none
    · rcases b.nf x h2 h1 with q | q
      · cases hH : H x with
        | none => exact .inl rfl
        | some o =>
          by_cases hx : x ∈ as
          · exact .inr hx
          · rw [a.fr _ _ hH hx] at q; cases q
      · by_cases hx : x ∈ as
        · exact .inr hx
        · exact .inl (a.na x q hx)
    · exact a.nf x h1 h0
  · by_cases h1 : x ∈ as1
    · exact a.na x h1 h0
    · have q := b.na x h2 h1
      cases hH : H x with
      | none => rfl
      | some o => rw [a.fr _ _ hH h0] at q; cases q
section
variable {K : PySem.W.Frag} {cs : Nat → Option Addr} {F B H F' H' : Hp} {as as' : List Addr} {env : Env} {st : Sto} {σ : L2.St}
theorem pre_get {α : Type} {as as' : List α} (h : as <+: as') {l : Nat} {a : α} (e : as[l]? = some a) : as'[l]? = some a := by
  obtain ⟨t, rfl⟩ := h
  rw [List.getElem?_append_left (List.getElem?_eq_some_iff.mp e).1]
  exact e
theorem Top.mono {G : Hp} (h : ∀ a o, F a = some o → F' a = some o) : ∀ {d : D} {u : V}, Top K G F d u → Top K G F' d u
  | .lst ds, u, q => by obtain ⟨p, us, e, a, b⟩ := q; exact ⟨p, us, e, a, Dens.mono h _ _ b⟩
  | .dK ks ds, u, q => by obtain ⟨p, us, e, a, l, b⟩ := q; exact ⟨p, us, e, a, l, Dens.mono h _ _ b⟩
  | .dT ks ds, u, q => by obtain ⟨p, us, e, a, l, b⟩ := q; exact ⟨p, us, e, a, l, Dens.mono h _ _ b⟩
  | .non, _, q => q.elim
  | .bl _, _, q => q.elim
  | .int _, _, q => q.elim
  | .str _, _, q => q.elim
  | .tup _, _, q => q.elim
  | .scr _, _, q => q.elim
theorem VOk.mono (h : ∀ a o, F a = some o → F' a = some o) (hp : as <+: as') : ∀ {v : Val} {u : V}, VOk K F B as v u → VOk K F' B as' v u
  | .dat d, u, q => Den.mono h d u q
  | .bor d, u, q => Top.mono h q
  | .ref l, u, q => by
    obtain ⟨a, e, r⟩ := q
    exact ⟨a, pre_get hp e, r⟩
theorem VOk.ext (x : Ext F as H F' as' H') {v : Val} {u : V} (q : VOk K F B as v u) : VOk K F' B as' v u := q.mono x.ff x.pre
theorem OOk.mono (h : ∀ a o, F a = some o → F' a = some o) (hp : as <+: as') : ∀ {o : Obj} {ho : HO}, OOk K cs F B as o ho → OOk K cs F' B as' o ho
  | .lst ds, ho, q => by obtain ⟨us, e, b⟩ := q; exact ⟨us, e, Dens.mono h _ _ b⟩
  | .dK ks ds, ho, q => by obtain ⟨us, e, l, b⟩ := q; exact ⟨us, e, l, Dens.mono h _ _ b⟩
  | .dT ks ds, ho, q => by obtain ⟨us, e, l, b⟩ := q; exact ⟨us, e, l, Dens.mono h _ _ b⟩
  | .ins c fs, ho, q => by
    obtain ⟨C, dx, gs, e1, e2, b⟩ := q
    exact ⟨C, dx, gs, e1, e2, Paired.mapP b fun p q r => ⟨r.1, r.2.mono h hp⟩⟩
  | .dead, _, _ => trivial
theorem RSt.there (r : RSt K cs F B as st H) : ∀ a, a ∈ as → H a ≠ none := fun a ha => by
  obtain ⟨l, hl, e⟩ := List.mem_iff_getElem.mp ha
  have hl' : l < st.length := by rw [← r.len]; exact hl
  obtain ⟨_, ho, e2, _⟩ := r.obj l a st[l] (by rw [List.getElem?_eq_getElem hl, e]) (List.getElem?_eq_getElem hl')
  rw [e2]; simp
theorem RSt.refl (r : RSt K cs F B as st H) : Ext F as H F as H := Ext.refl F as H r.there
/-- a new frozen thing -/
theorem RSt.frozen (r : RSt K cs F B as st H) {p : Addr} {o : HO} (hp : H p = none) : RSt K cs (upd F p o) B as st (upd H p o) ∧ Ext F as H (upd F p o) as (upd H p o) := by
  have pF : F p = none := by
    cases q : F p with
    | none => rfl
    | some x => rw [r.fh _ _ q] at hp; cases hp
  have nep : ∀ {a}, H a ≠ none → a ≠ p := fun h e => h (by rw [e]; exact hp)
  have hF : ∀ a x, F a = some x → (upd F p o) a = some x := fun a x h => by rw [upd_ne (by intro e; rw [e, pF] at h; cases h)]; exact h
  refine ⟨⟨fun a x h => ?_, fun a x h => ?_, r.nd, r.len, r.nb, fun l a x e1 e2 => ?_⟩, ⟨hF, List.prefix_refl _, fun a x h _ => ?_, fun a h => ?_, fun a h h' => ?_, fun a h h' => absurd h h'⟩⟩
  · by_cases e : a = p
    · subst e; rw [upd_same] at h ⊢; exact h
    · rw [upd_ne e] at h ⊢; exact r.fh _ _ h
  · have := r.bh _ _ h
    rw [upd_ne (nep (by rw [this]; simp))]; exact this
  · obtain ⟨z, ho, e3, e4⟩ := r.obj l a x e1 e2
    have ne := nep (a := a) (by rw [e3]; simp)
    refine ⟨z.imp id fun z => by rw [upd_ne ne]; exact z, ho, by rw [upd_ne ne]; exact e3, e4.mono hF (List.prefix_refl _)⟩
  · rw [upd_ne (nep (by rw [h]; simp))]; exact h
  · rw [upd_ne (nep (r.there a h))]; exact r.there a h
  · by_cases e : a = p
    · subst e; exact .inl hp
    · rw [upd_ne e] at h; exact absurd h' h
/-- a new place -/
theorem RSt.own (r : RSt K cs F B as st H) {p : Addr} {o : Obj} {ho : HO} (hp : H p = none) (ok : OOk K cs F B (as ++ [p]) o ho) : RSt K cs F B (as ++ [p]) (st ++ [o]) (upd H p ho) ∧ Ext F as H F (as ++ [p]) (upd H p ho) := by
  have pF : F p = none := by
    cases q : F p with
    | none => rfl
    | some x => rw [r.fh _ _ q] at hp; cases hp
  have pB : B p = none := by
    cases q : B p with
    | none => rfl
    | some x => rw [r.bh _ _ q] at hp; cases hp
  have nep : ∀ {a}, H a ≠ none → a ≠ p := fun h e => h (by rw [e]; exact hp)
  have pas : p ∉ as := fun h => r.there p h hp
  refine ⟨⟨fun a x h => ?_, fun a x h => ?_, ?_, by simp [r.len], ?_, fun l a x e1 e2 => ?_⟩, ⟨fun _ _ h => h, List.prefix_append _ _, fun a x h _ => ?_, fun a h => ?_, fun a h h' => absurd h' h, fun a h h' => ?_⟩⟩
  · have := r.fh _ _ h
    rw [upd_ne (nep (by rw [this]; simp))]; exact this
  · have := r.bh _ _ h
    rw [upd_ne (nep (by rw [this]; simp))]; exact this
  · rw [List.nodup_append]
    exact ⟨r.nd, by simp, fun a h b h' e => by simp at h'; subst h'; subst e; exact pas h⟩
  · intro a h
    rcases List.mem_append.mp h with h | h
    · exact r.nb a h
    · simp at h; subst h; exact pB
  · by_cases hl : l < as.length
    · rw [List.getElem?_append_left hl] at e1
      rw [List.getElem?_append_left (by rw [← r.len]; exact hl)] at e2
      obtain ⟨z, ho', e3, e4⟩ := r.obj l a x e1 e2
      exact ⟨z, ho', by rw [upd_ne (nep (by rw [e3]; simp))]; exact e3, e4.mono (fun _ _ h => h) (List.prefix_append _ _)⟩
    · have hl1 : as.length ≤ l := by omega
      rw [List.getElem?_append_right hl1] at e1
      rw [List.getElem?_append_right (by rw [← r.len]; exact hl1)] at e2
      have h0 : l - as.length = 0 := by
        rcases Nat.eq_zero_or_pos (l - as.length) with h | h
        · exact h
        · rw [List.getElem?_eq_none (by simp; omega)] at e1; cases e1
      rw [h0] at e1
      rw [← r.len, h0] at e2
      simp at e1 e2
      subst e1; subst e2
      exact ⟨.inr pF, ho, upd_same, ok⟩
  · rw [upd_ne (nep (by rw [h]; simp))]; exact h
  · rw [upd_ne (nep (r.there a h))]; exact r.there a h
  · rcases List.mem_append.mp h with h | h
    · exact absurd h h'
    · simp at h; subst h; exact hp
/-- a place is written -/
theorem RSt.write (r : RSt K cs F B as st H) {l : Nat} {p : Addr} {o o' : Obj} {ho : HO} (e1 : as[l]? = some p) (e2 : st[l]? = some o) (nd : o ≠ .dead) (ok : OOk K cs F B as o' ho) : RSt K cs F B as (st.set l o') (upd H p ho) ∧ Ext F as H F as (upd H p ho) := by
  obtain ⟨z, ho0, e3, _⟩ := r.obj l p o e1 e2
  have pF : F p = none := z.resolve_left nd
  have pm : p ∈ as := List.mem_of_getElem? e1
  have pB := r.nb p pm
  refine ⟨⟨fun a x h => ?_, fun a x h => ?_, r.nd, by simp [r.len], r.nb, fun j a x e4 e5 => ?_⟩, ⟨fun _ _ h => h, List.prefix_refl _, fun a x h hn => ?_, fun a h => ?_, fun a h h' => absurd h' h, fun a h h' => absurd h h'⟩⟩
  · rw [upd_ne (by intro e; rw [e, pF] at h; cases h)]; exact r.fh _ _ h
  · rw [upd_ne (by intro e; rw [e, pB] at h; cases h)]; exact r.bh _ _ h
  · by_cases hj : j = l
    · subst hj
      rw [e1] at e4; cases e4
      rw [List.getElem?_set_self (List.getElem?_eq_some_iff.mp e2).1] at e5; cases e5
      exact ⟨.inr pF, ho, upd_same, ok⟩
    · rw [List.getElem?_set_ne (Ne.symm hj)] at e5
      obtain ⟨z', ho', e6, e7⟩ := r.obj j a x e4 e5
      have ne : a ≠ p := fun e => hj (nd_ix (x := p) r.nd (by rw [← e]; exact e4) e1)
      exact ⟨z', ho', by rw [upd_ne ne]; exact e6, e7⟩
  · rw [upd_ne (by intro e; exact hn (e ▸ pm))]; exact h
  · by_cases e : a = p
    · subst e; rw [upd_same]; simp
    · rw [upd_ne e]; exact r.there a h
/-- a place is given up: what stands there is frozen -/
theorem RSt.freeze (r : RSt K cs F B as st H) {l : Nat} {p : Addr} {o : Obj} {ho : HO} (e1 : as[l]? = some p) (e2 : st[l]? = some o) (nd : o ≠ .dead) (e3 : H p = some ho) : RSt K cs (upd F p ho) B as (st.set l .dead) H ∧ Ext F as H (upd F p ho) as H := by
  obtain ⟨z, ho0, e3', _⟩ := r.obj l p o e1 e2
  have pF : F p = none := z.resolve_left nd
  have pm : p ∈ as := List.mem_of_getElem? e1
  have hF : ∀ a x, F a = some x → (upd F p ho) a = some x := fun a x h => by rw [upd_ne (by intro e; rw [e, pF] at h; cases h)]; exact h
  refine ⟨⟨fun a x h => ?_, r.bh, r.nd, by simp [r.len], r.nb, fun j a x e4 e5 => ?_⟩, ⟨hF, List.prefix_refl _, fun _ _ h _ => h, r.there, fun a h h' => ?_, fun a h h' => absurd h h'⟩⟩
  · by_cases e : a = p
    · subst e; rw [upd_same] at h; cases h; exact e3
    · rw [upd_ne e] at h; exact r.fh _ _ h
  · by_cases hj : j = l
    · subst hj
      rw [e1] at e4; cases e4
      rw [List.getElem?_set_self (List.getElem?_eq_some_iff.mp e2).1] at e5; cases e5
      exact ⟨.inl rfl, ho, e3, trivial⟩
    · rw [List.getElem?_set_ne (Ne.symm hj)] at e5
      obtain ⟨z', ho', e6, e7⟩ := r.obj j a x e4 e5
      have ne : a ≠ p := fun e => hj (nd_ix (x := p) r.nd (by rw [← e]; exact e4) e1)
      exact ⟨z'.imp id fun z => by rw [upd_ne ne]; exact z, ho', e6, e7.mono hF (List.prefix_refl _)⟩
  · by_cases e : a = p
    · subst e; exact .inr pm
    · rw [upd_ne e] at h; exact absurd h' h
theorem Rel.slots {F' H' : Hp} {as' : List Addr} {st' : Sto} (r : Rel K cs F B as env st σ H) (x : Ext F as H F' as' H') (r' : RSt K cs F' B as' st' H') : Rel K cs F' B as' env st' σ H' :=
  { r' with slot := fun i v e => let ⟨u, e1, e2⟩ := r.slot i v e; ⟨u, e1, e2.ext x⟩, elen := r.elen }
theorem Rel.frozen (r : Rel K cs F B as env st σ H) {p : Addr} {o : HO} (hp : H p = none) : Rel K cs (upd F p o) B as env st σ (upd H p o) ∧ Ext F as H (upd F p o) as (upd H p o) :=
  let ⟨a, x⟩ := r.toRSt.frozen (o := o) hp
  ⟨r.slots x a, x⟩
theorem Rel.set (r : Rel K cs F B as env st σ H) {i : Nat} {v : Val} {u : V} (h : VOk K F B as v u) (hi : i < σ.length) : Rel K cs F B as (env.set i (some v)) st (σ.set i (some u)) H :=
  { r.toRSt with
    slot := fun j w e => by
      by_cases hj : j = i
      · subst hj
        rw [List.getElem?_set_self (by rw [r.elen]; exact hi)] at e; cases e
        exact ⟨u, List.getElem?_set_self hi, h⟩
      · rw [List.getElem?_set_ne (Ne.symm hj)] at e
        rw [List.getElem?_set_ne (Ne.symm hj)]
        exact r.slot j w e
    elen := by simp [r.elen] }
end
end NK
set_option Elab.async false
set_option linter.all false
set_option autoImplicit false
set_option maxRecDepth 100000
/-! NkB: a small language, and what it reckons over values and a store. -/
namespace NK
open PySem PySem.Spec L2
inductive BOp where | add | sub | mul | fdiv | mod | pow | shl
  deriving DecidableEq
inductive COp where | eq | ne | lt | le | gt | ge | is | isnot | inn | notin
  deriving DecidableEq
/-- built-in functions of one value -/
inductive Bi where | len | abs | int | str | list | tuple | dict | sorted | sum | max | min | all | any | max2 | min2 | maxD | sset
  deriving DecidableEq
inductive Mt where | append | pop | popAt | clear | get | pop2 | join | split | partition | rpartition | startswith | strip | lstrip | count | index | update
  deriving DecidableEq
inductive Ty where | int | bool | str | tuple | list | dict
  deriving DecidableEq
mutual
inductive E where
  | int (i : Int) | bl (b : Bool) | non | str (w : W)
  | var (i : Nat) | gl (x : W) (d : D)
  | tup (es : List E)
  | bin (o : BOp) (a b : E) | neg (a : E) | not (a : E)
  | and (a b : E) | or (a b : E)
  | cmp (o : COp) (a b : E) | chain (o o' : COp) (a b c : E)
  | ite (c a b : E)
  | idx (a i : E) | slc (a : E) (lo hi : Option E)
  | call (f : Nat) (m : List Bool) (es : List E) | callA (f : Nat) (m : List Bool) (es : List E)
  | bi (b : Bi) (es : List E)
  | mt (m : Mt) (o : E) (es : List E)
  | isi (a : E) (ts : List Ty)
  | fz (o : O) | new (o : O)
  | attr (c : Nat) (a : E) (x : W) | meth (c f : Nat) (x : W) (o : E) (es : List E) | make (g : Nat) (es : List E)
/-- what makes a new list or dict -/
inductive O where
  | lst (es : List E) | dic (kvs : List E) | dicT
  | comp (elt : E) (tg : List Nat) (tup : Bool) (it : I) (c : Option E) (own : List Nat)
  | compP (elt : E) (tg : List Nat) (tup : Bool) (i : Nat) (c : Option E) (own : List Nat)
  | compD (elt : E) (tg : List Nat) (tup : Bool) (i : Nat) (c : Option E) (own : List Nat)
  | list (a : E) | dict (a : E) | cut (a : E) (lo hi : Option E) | cat (a b : E) | rep (a b : E) | evn (a : E)
/-- what is walked -/
inductive I where
  | e (a : E) | rng (es : List E) | enum (a : E) | zip (a b : E) | rev (a : E) | revr (es : List E)
end
inductive St where
  | set (i : Nat) (e : E) | setT (is : List Nat) (e : E) | par (i j : Nat) (a b : E)
  | sub (o k v : E) | aug (i : Nat) (o : BOp) (e : E) | ext (i : Nat) (e : E)
  | expr (e : E)
  | ifS (c : E) (a b : List St) | wh (c : E) (b : List St)
  | forS (tg : List Nat) (tup : Bool) (it : I) (b : List St)
  | forP (tg : List Nat) (tup : Bool) (i : Nat) (b : List St) | forD (tg : List Nat) (tup : Bool) (i : Nat) (b : List St)
  | ret (e : E) | retN | pass | nev | frz (i : Nat)
  | setA (c : Nat) (o : E) (x : W) (v : E) | augA (c : Nat) (o : E) (x : W) (op : BOp) (v : E)
/-- what a function gives back: data, or a new list or dict; or, of a method, a value over the places as they stand -/
inductive Ret where | dat (d : D) | own (o : Obj) | val (v : Val)
abbrev Calls := Nat → List Val → Sto → Option (Ret × Sto)
def LIM : Nat := 16777216
/-! ### instances -/
/-- the class c's instance at v -/
def insV (c : Nat) (v : Val) (st : Sto) : Option (List (W × Val)) := match v with
  | .ref l => match st[l]? with
    | some (.ins c' fs) => if c' = c then some fs else none
    | _ => none
  | _ => none
def putA (x : W) (v : Val) : List (W × Val) → List (W × Val)
  | [] => [(x, v)]
  | (y, u) :: r => if y = x then (y, v) :: r else (y, u) :: putA x v r
def setAV (c : Nat) (x : W) (o v : Val) (st : Sto) : Option Sto := match o with
  | .ref l => match st[l]? with
    | some (.ins c' fs) => if c' = c ∧ fs.length < 900 then some (st.set l (.ins c' (putA x v fs))) else none
    | _ => none
  | _ => none
def valR (q : Ret × Sto) : Option (Val × Sto) := match q.1 with
  | .val v => some (v, q.2)
  | _ => none
/-! ### looking at values -/
def flat : Obj → Bool
  | .ins _ _ => false
  | _ => true
def fzO : Obj → Option D
  | .lst ds => some (.lst ds)
  | .dK ks ds => some (.dK ks ds)
  | .dT ks ds => some (.dT ks ds)
  | _ => none
/-- the data that a value is, as it stands -/
def snap (st : Sto) : Val → Option D
  | .dat d => some d
  | .bor d => some d
  | .ref l => (st[l]?).bind fzO
def asL (st : Sto) (v : Val) : Option (List D) := match snap st v with
  | some (.lst ds) => some ds
  | some (.scr ns) => some (ns.map .int)
  | _ => none
/-- .. no script -/
def asX (st : Sto) (v : Val) : Option (List D) := match snap st v with
  | some (.lst ds) => some ds
  | _ => none
def asT : Val → Option (List D)
  | .dat (.tup ds) => some ds
  | _ => none
/-- what is taken apart -/
def asU : Val → Option (List D)
  | .dat (.tup ds) => some ds
  | .dat (.lst ds) => some ds
  | _ => none
def asLT (st : Sto) (v : Val) : Option (List D) := match asT v with
  | some ds => some ds
  | none => asL st v
def asDK (st : Sto) (v : Val) : Option (List K1 × List D) := match snap st v with
  | some (.dK ks ds) => some (ks, ds)
  | _ => none
def asDT (st : Sto) (v : Val) : Option (List (List K1) × List D) := match snap st v with
  | some (.dT ks ds) => some (ks, ds)
  | _ => none
def toK : D → Option K1
  | .int i => some (.inl i)
  | .str w => some (.inr w)
  | _ => none
def toKs : List D → Option (List K1)
  | [] => some []
  | d :: ds => (toK d).bind fun k => (toKs ds).map fun ks => k :: ks
def toTK : D → Option (List K1)
  | .tup ds => toKs ds
  | _ => none
/-- a value as data; a place's list is given up -/
def toD : Val → Sto → Option (D × Sto)
  | .dat d, st => some (d, st)
  | .bor _, _ => none
  | .ref l, st => ((st[l]?).bind fzO).map fun d => (d, st.set l .dead)
def toDs : List Val → Sto → Option (List D × Sto)
  | [], st => some ([], st)
  | v :: vs, st => (toD v st).bind fun r => (toDs vs r.2).map fun q => (r.1 :: q.1, q.2)
def dlook {κ : Type} [DecidableEq κ] : List κ → List D → κ → Option D
  | k :: ks, d :: ds, j => if k = j then some d else dlook ks ds j
  | _, _, _ => none
def dsetK {κ : Type} [DecidableEq κ] : List κ → List D → κ → D → List D
  | k :: ks, d :: ds, j, e => (if k = j then e else d) :: dsetK ks ds j e
  | _, _, _, _ => []
def dputK {κ : Type} [DecidableEq κ] (ks : List κ) (ds : List D) (j : κ) (e : D) : List κ × List D := if j ∈ ks then (ks, dsetK ks ds j e) else (ks ++ [j], ds ++ [e])
def ddrop {κ : Type} [DecidableEq κ] : List κ → List D → κ → List κ × List D
  | k :: ks, d :: ds, j => if k = j then ddrop ks ds j else (k :: (ddrop ks ds j).1, d :: (ddrop ks ds j).2)
  | _, _, _ => ([], [])
/-! ### equality -/
def kD : K1 → PyData
  | .inl i => .int i
  | .inr w => .str (S w)
mutual
def toP : D → PyData
  | .non => .none | .bl b => .bool b | .int i => .int i | .str w => .str (S w)
  | .tup ds => .tuple (toPs ds) | .lst ds => .list (toPs ds)
  | .dK _ _ => .none | .dT _ _ => .none
  | .scr ns => .list (ns.map .int)
def toPs : List D → List PyData
  | [] => [] | d :: ds => toP d :: toPs ds
end
mutual
/-- no dict within -/
def nod : D → Bool
  | .tup ds => nods ds | .lst ds => nods ds
  | .dK _ _ => false | .dT _ _ => false
  | _ => true
def nods : List D → Bool
  | [] => true | d :: ds => nod d && nods ds
end
mutual
def dep : D → Nat
  | .tup ds => deps ds + 1 | .lst ds => deps ds + 1 | .scr _ => 1
  | _ => 0
def deps : List D → Nat
  | [] => 0 | d :: ds => max (dep d) (deps ds)
end
mutual
/-- == -/
def eqD : D → D → Bool
  | .non, .non => true
  | .bl a, .bl b => a == b
  | .bl a, .int j => (if a then 1 else 0) == j
  | .int i, .bl b => i == (if b then 1 else 0)
  | .int i, .int j => i == j
  | .str x, .str y => x == y
  | .lst xs, .lst ys => eqDs xs ys
  | .tup xs, .tup ys => eqDs xs ys
  | .scr xs, .scr ys => xs == ys
  | .scr xs, .lst ys => eqSs xs ys
  | .lst xs, .scr ys => eqSs ys xs
  | .dK ks ds, .dK js es => ks.length == js.length && eqKs ks ds js es
  | _, _ => false
def eqKs : List K1 → List D → List K1 → List D → Bool
  | k :: ks, d :: ds, js, es => (match dlook js es k with
    | some e => eqD d e
    | none => false) && eqKs ks ds js es
  | _, _, _, _ => true
def eqDs : List D → List D → Bool
  | [], [] => true
  | x :: xs, y :: ys => eqD x y && eqDs xs ys
  | _, _ => false
def eqSs : List Int → List D → Bool
  | [], [] => true
  | x :: xs, y :: ys => eqI x y && eqSs xs ys
  | _, _ => false
def eqI : Int → D → Bool
  | i, .int j => i == j
  | i, .bl b => i == (if b then 1 else 0)
  | _, _ => false
end
/-- two dicts that can be compared -/
def eqOkK : D → D → Bool
  | .dK ks ds, .dK js es => nods ds && nods es && decide (ks.length = ds.length) && decide (js.length = es.length) && decide (min (deps ds) (deps es) ≤ 150)
  | _, _ => false
def eqOk (a b : D) : Bool := (nod a && nod b && decide (min (dep a) (dep b) ≤ 190)) || eqOkK a b
mutual
/-- data that can be held against like data, dicts within -/
def okT : D → Bool
  | .tup ds => okTs ds | .lst ds => okTs ds
  | .dK _ ds => okTs ds | .dT _ _ => false
  | .scr _ => false
  | _ => true
def okTs : List D → Bool
  | [] => true | d :: ds => okT d && okTs ds
end
mutual
def depT : D → Nat
  | .tup ds => depTs ds + 1 | .lst ds => depTs ds + 1 | .dK _ ds => depTs ds + 1
  | _ => 0
def depTs : List D → Nat
  | [] => 0 | d :: ds => max (depT d) (depTs ds)
end
/-- equal, with dicts within -/
def eqOkT (a b : D) : Bool := okT a && okT b && decide (depT a ≤ 150) && eqD a b && (match a with
  | .lst _ => true | .tup _ => true | .dK _ _ => true
  | _ => false)
/-- .. two lists -/
def eqOkL (a b : D) : Bool := match a with
  | .lst _ => eqOkT a b
  | _ => false
/-! ### operators -/
def okMul (i j : Int) : Bool := decide (i.natAbs.log2 + j.natAbs.log2 < 100000000)
def okDiv (j : Int) : Bool := decide (j ≠ 0) && decide (j.natAbs.log2 < 9000)
def okPow (i j : Int) : Bool := decide (0 ≤ j) && decide (j ≤ 1000000) && decide (i.natAbs < 2 ^ 64)
def binV (o : BOp) (x y : Val) (st : Sto) : Option Val := match o, x, y with
  | .add, .dat (.int i), .dat (.int j) => some (.dat (.int (i + j)))
  | .sub, .dat (.int i), .dat (.int j) => some (.dat (.int (i - j)))
  | .mul, .dat (.int i), .dat (.int j) => if okMul i j then some (.dat (.int (i * j))) else none
  | .fdiv, .dat (.int i), .dat (.int j) => if okDiv j then some (.dat (.int (i.fdiv j))) else none
  | .mod, .dat (.int i), .dat (.int j) => if j = 0 then none else some (.dat (.int (i.fmod j)))
  | .pow, .dat (.int i), .dat (.int j) => if okPow i j then some (.dat (.int (i ^ j.toNat))) else none
  | .shl, .dat (.int i), .dat (.int j) => if okPow i j then some (.dat (.int (i * 2 ^ j.toNat))) else none
  | .add, .dat (.str a), .dat (.str b) => if a.length + b.length ≤ LIM then some (.dat (.str (a ++ b))) else none
  | .add, .dat (.tup a), .dat (.tup b) => if a.length + b.length ≤ LIM then some (.dat (.tup (a ++ b))) else none
  | .mul, .dat (.tup a), .dat (.int j) => if a.isEmpty = false ∧ a.length ≤ 1000 ∧ 2 ≤ j ∧ j ≤ 1000 then some (.dat (.tup (List.replicate j.toNat a).flatten)) else none
  | .add, a, b => match asX st a, asX st b with
    | some xs, some ys => if xs.length + ys.length ≤ LIM then some (.dat (.lst (xs ++ ys))) else none
    | _, _ => none
  | _, _, _ => none
def ltW : W → W → Bool
  | [], [] => false
  | [], _ :: _ => true
  | _ :: _, [] => false
  | a :: r, b :: t => decide (a < b) || (a == b && ltW r t)
def cmpV (o : COp) (x y : Val) (st : Sto) : Option Bool := match o, x, y with
  | .lt, .dat (.int i), .dat (.int j) => some (decide (i < j))
  | .le, .dat (.int i), .dat (.int j) => some (decide (i ≤ j))
  | .gt, .dat (.int i), .dat (.int j) => some (decide (j < i))
  | .ge, .dat (.int i), .dat (.int j) => some (decide (j ≤ i))
  | .lt, .dat (.str i), .dat (.str j) => some (ltW i j)
  | .le, .dat (.str i), .dat (.str j) => some (!ltW j i)
  | .gt, .dat (.str i), .dat (.str j) => some (ltW j i)
  | .ge, .dat (.str i), .dat (.str j) => some (!ltW i j)
  | .is, .dat .non, .dat .non => some true
  | .is, .dat (.bl a), .dat (.bl b) => some (a == b)
  | .is, _, .dat .non => some false
  | .isnot, .dat .non, .dat .non => some false
  | .isnot, .dat (.bl a), .dat (.bl b) => some (!(a == b))
  | .isnot, _, .dat .non => some true
  | .eq, x, y => match snap st x, snap st y with
    | some a, some b => if eqOk a b || eqOkT a b then some (eqD a b) else none
    | _, _ => none
  | .ne, x, y => match snap st x, snap st y with
    | some a, some b => if eqOk a b || eqOkL a b then some (!eqD a b) else none
    | _, _ => none
  | .inn, x, y => inV x y
  | .notin, x, y => (inV x y).map (!·)
  | _, _, _ => none
where inV (x y : Val) : Option Bool := match snap st x, snap st y with
    | some (.str a), some (.str b) => match a with
      | [c] => some (decide (c ∈ b))
      | _ => none
    | some k, some (.dK ks ds) => (toK k).map fun k => (dlook ks ds k).isSome
    | some k, some (.dT ks ds) => (toTK k).map fun k => (dlook ks ds k).isSome
    | some a, some (.lst ds) => if nod a && nods ds && decide (dep a ≤ 150) then some (ds.any fun d => eqD d a) else none
    | some a, some (.tup ds) => if nod a && nods ds && decide (dep a ≤ 150) then some (ds.any fun d => eqD d a) else none
    | _, _ => none
def ix (n : Nat) (i : Int) : Option Nat := if 0 ≤ i then (if i < n then some i.toNat else none) else if -(n : Int) ≤ i then some (i + n).toNat else none
def at? {α : Type} (xs : List α) (i : Int) : Option α := (ix xs.length i).bind fun j => xs[j]?
def idxV (x i : Val) (st : Sto) : Option D := match x, i with
  | .dat (.tup ds), .dat (.int k) => at? ds k
  | .dat (.str w), .dat (.int k) => if w.length ≤ LIM then (at? w k).map fun c => .str [c] else none
  | x, .dat i => match snap st x with
    | some (.lst ds) => (match i with | .int k => at? ds k | _ => none)
    | some (.scr ns) => (match i with | .int k => (at? ns k).map .int | _ => none)
    | some (.dK ks ds) => (toK i).bind fun k => dlook ks ds k
    | some (.dT ks ds) => (toTK i).bind fun k => dlook ks ds k
    | _ => none
  | _, _ => none
def sIx (n d : Nat) : Option Int → Nat
  | none => d
  | some v => if v < 0 then (v + (n : Int)).toNat else min v.toNat n
/-- each second one -/
def evens {α : Type} : List α → List α
  | [] => []
  | [a] => [a]
  | a :: _ :: r => a :: evens r
def cutL {α : Type} (xs : List α) (lo hi : Option Int) : List α := (xs.drop (sIx xs.length 0 lo)).take (sIx xs.length xs.length hi - sIx xs.length 0 lo)
def slcV (x : Val) (lo hi : Option Int) (st : Sto) : Option D := match x with
  | .dat (.tup ds) => some (.tup (cutL ds lo hi))
  | .dat (.str w) => if w.length ≤ LIM then some (.str (cutL w lo hi)) else none
  | x => (asL st x).map fun ds => .lst (cutL ds lo hi)
def intOf : Val → Option Int
  | .dat (.int i) => some i
  | _ => none
/-! ### built-ins -/
def intsD : List D → Option (List Int)
  | [] => some []
  | .int i :: ds => (intsD ds).map (i :: ·)
  | _ => none
def boolsD : List D → Option (List Bool)
  | [] => some []
  | .bl i :: ds => (boolsD ds).map (i :: ·)
  | _ => none
def textsD : List D → Option (List W)
  | [] => some []
  | .str i :: ds => (textsD ds).map (i :: ·)
  | _ => none
def maxOf : List Int → Option Int
  | [] => none
  | [x] => some x
  | x :: xs => (maxOf xs).map fun y => if x < y then y else x
def minOf : List Int → Option Int
  | [] => none
  | [x] => some x
  | x :: xs => (minOf xs).map fun y => if y < x then y else x
def insW (x : W) : List W → List W
  | [] => [x]
  | y :: ys => if ltW y x then y :: insW x ys else x :: y :: ys
def sortW : List W → List W
  | [] => []
  | x :: xs => insW x (sortW xs)
def digs (n : Nat) : W := (Nat.toDigits 10 n).map Char.toNat
def intW (i : Int) : W := if i < 0 then 45 :: digs i.natAbs else digs i.natAbs
def lenV (st : Sto) (v : Val) : Option Nat := match v with
  | .dat (.tup ds) => some ds.length
  | .dat (.str w) => if w.length ≤ LIM then some w.length else none
  | v => match snap st v with
    | some (.lst ds) => some ds.length
    | some (.scr ns) => some ns.length
    | some (.dK ks ds) => some ks.length
    | _ => none
def k2D : K1 → D
  | .inl i => .int i
  | .inr w => .str w
/-- what is sorted -/
def soL (st : Sto) (v : Val) : Option (List D) := match asL st v with
  | some ds => some ds
  | none => (asDK st v).map fun q => q.1.map k2D
/-- tuples of whole numbers, in order -/
def ltI : List Int → List Int → Bool
  | _, [] => false
  | [], _ :: _ => true
  | a :: r, b :: t => decide (a < b) || (a == b && ltI r t)
def tupI? : D → Option (List Int)
  | .tup ds => (intsD ds).bind fun ns => if !ns.isEmpty && decide (ns.length ≤ 400) && ns.all (fun n => decide (0 ≤ n) && decide (n < 1000000)) then some ns else none
  | _ => none
def tupsI? : List D → Option (List (List Int))
  | [] => some []
  | d :: ds => (tupI? d).bind fun n => (tupsI? ds).map fun ns => n :: ns
def ascB : List (List Int) → Bool
  | [] => true
  | n :: ns => ns.all (fun m => ltI n m) && ascB ns
def ascD (ds : List D) : Bool := decide (ds.length < 64) && (match tupsI? ds with
  | some ns => ascB ns
  | none => false)
def biV (b : Bi) (vs : List Val) (st : Sto) : Option D := match b, vs with
  | .len, [v] => (lenV st v).map fun (n : Nat) => D.int (n : Int)
  | .abs, [.dat (.int i)] => some (.int (if i < 0 then -i else i))
  | .int, [.dat (.int i)] => some (.int i)
  | .int, [.dat (.bl b)] => some (.int (if b then 1 else 0))
  | .str, [.dat (.int i)] => if i.natAbs.log2 < 1920 then some (.str (intW i)) else none
  | .tuple, [v] => match asT v with
    | some ds => some (.tup ds)
    | none => (asL st v).map .tup
  | .sum, [v] => (asL st v).bind fun ds => (intsD ds).map fun ns => .int ns.sum
  | .max, [v] => (asL st v).bind fun ds => (intsD ds).bind fun ns => (maxOf ns).map .int
  | .min, [v] => (asL st v).bind fun ds => (intsD ds).bind fun ns => (minOf ns).map .int
  | .all, [v] => (asL st v).bind fun ds => (boolsD ds).map fun ns => .bl (ns.all id)
  | .any, [v] => (asL st v).bind fun ds => (boolsD ds).map fun ns => .bl (ns.any id)
  | .max2, [.dat (.int i), .dat (.int j)] => some (.int (if j > i then j else i))
  | .min2, [.dat (.int i), .dat (.int j)] => some (.int (if j < i then j else i))
  | .sorted, [v] => match (soL st v).bind fun ds => (textsD ds).bind fun ws => if ws.length < 64 then some (D.lst ((sortW ws).map .str)) else none with
    | some d => some d
    | none => (asL st v).bind fun ds => if ascD ds then some (.lst ds) else none
  | .sset, [v] => (asLT st v).bind fun ds => (textsD ds).bind fun ws => if ws.length < 64 then some (.lst ((sortW ws.eraseDups).map .str)) else none
  | .maxD, [v, .dat (.int d)] => (asL st v).bind fun ds => (intsD ds).map fun ns => .int ((maxOf ns).getD d)
  | _, _ => none
/-- those that are called as they stand -/
def plainBi : Bi → Bool
  | .maxD => false | .sset => false
  | _ => true
def isTy : D → Ty → Option Bool
  | .int _, t => some (t == .int)
  | .bl _, t => some (t == .int || t == .bool)
  | .str _, t => some (t == .str)
  | .tup _, t => some (t == .tuple)
  | .lst _, t => some (t == .list)
  | .dK _ _, t => some (t == .dict)
  | .non, t => some false
  | _, _ => none
/-! ### calls -/
/-- the arguments for a callee: a place is handed over (true) or lent (false) -/
def prep (st : Sto) : Nat → List Bool → List Val → Option (List Val × List Nat × List Nat)
  | _, [], [] => some ([], [], [])
  | n, true :: bs, .ref l :: vs => (prep st (n + 1) bs vs).map fun r => (.ref n :: r.1, l :: r.2.1, r.2.2)
  | n, false :: bs, .ref l :: vs => ((st[l]?).bind fzO).bind fun d => (prep st n bs vs).map fun r => (.bor d :: r.1, r.2.1, l :: r.2.2)
  | n, _ :: bs, .dat d :: vs => (prep st n bs vs).map fun r => (.dat d :: r.1, r.2.1, r.2.2)
  | n, _ :: bs, .bor d :: vs => (prep st n bs vs).map fun r => (.bor d :: r.1, r.2.1, r.2.2)
  | _, _, _ => none
def takeSt (st : Sto) : List Nat → Option Sto
  | [] => some []
  | l :: ls => (st[l]?).bind fun o => if flat o then (takeSt st ls).map (o :: ·) else none
def backSt (st : Sto) : List Nat → Sto → Sto
  | l :: ls, o :: os => backSt (st.set l o) ls os
  | _, _ => st
def callV (C : Calls) (f : Nat) (m : List Bool) (vs : List Val) (st : Sto) : Option (Ret × Sto) :=
  (prep st 0 m vs).bind fun r => if r.2.1.Nodup ∧ (∀ x ∈ r.2.2, x ∉ r.2.1) then
    (takeSt st r.2.1).bind fun os => (C f r.1 os).bind fun q => if q.2.all flat && decide (q.2.length = os.length) then some (q.1, backSt st r.2.1 q.2) else none
  else none
def bindT (tg : List Nat) (tup : Bool) (d : D) (env : Env) : Option Env := match tup, tg with
  | false, [i] => some (env.set i (some (.dat d)))
  | true, tg => match d with
    | .tup ds => go tg ds env
    | .lst ds => go tg ds env
    | _ => none
  | _, _ => none
where go : List Nat → List D → Env → Option Env
    | [], [], env => some env
    | i :: is, d :: ds, env => go is ds (env.set i (some (.dat d)))
    | _, _, _ => none
def wipeE (env : Env) : List Nat → Env
  | [] => env
  | v :: vs => (wipeE env vs).set v none
/-- a comprehension's turns -/
def compV (own : List Nat) (env0 : Env) (bind : D → Env → Option Env) (cond : Env → Sto → Option (Bool × Sto)) (elt : Env → Sto → Option (Val × Sto)) : List D → Sto → Option (List D × Sto)
  | [], st => some ([], st)
  | d :: ds, st => (bind d env0).bind fun e1 => (cond e1 st).bind fun c => if c.1 then
      (elt e1 c.2).bind fun r => (toD r.1 r.2).bind fun q => (compV own env0 bind cond elt ds q.2).map fun t => (q.1 :: t.1, t.2)
    else compV own env0 bind cond elt ds c.2
open Classical in
/-- .. as long as the store keeps G -/
noncomputable def compG (G : Sto → Prop) (own : List Nat) (env0 : Env) (bind : D → Env → Option Env) (cond : Env → Sto → Option (Bool × Sto)) (elt : Env → Sto → Option (Val × Sto)) : List D → Sto → Option (List D × Sto)
  | [], st => some ([], st)
  | d :: ds, st => (bind d env0).bind fun e1 => (cond e1 st).bind fun c => if c.1 then
      (elt e1 c.2).bind fun r => (toD r.1 r.2).bind fun q => if G q.2 then (compG G own env0 bind cond elt ds q.2).map fun t => (q.1 :: t.1, t.2) else none
    else if G c.2 then compG G own env0 bind cond elt ds c.2 else none
def anyS : Sto → Prop := fun _ => True
theorem compG_any {own : List Nat} {env0 : Env} {bind : D → Env → Option Env} {cond : Env → Sto → Option (Bool × Sto)} {elt : Env → Sto → Option (Val × Sto)} : ∀ (ds : List D) (st : Sto), compG anyS own env0 bind cond elt ds st = compV own env0 bind cond elt ds st
  | [], st => rfl
  | d :: ds, st => by
    have t : ∀ s, anyS s = True := fun _ => rfl
    simp only [compG, compV, t, if_true, compG_any ds]
def lstS (l : Nat) (ds : List D) : Sto → Prop := fun s => s[l]? = some (.lst ds)
/-- a place's list -/
def plV (env : Env) (i : Nat) (st : Sto) : Option (Nat × List D) := match env[i]? with
  | some (some (.ref l)) => match st[l]? with
    | some (.lst ds) => some (l, ds)
    | _ => none
  | _ => none
/-- the keys of a dict that stays as it is -/
def kyV (env : Env) (i : Nat) : Option (List D) := match env[i]? with
  | some (some (.dat (.dK ks _))) => some (ks.map k2D)
  | some (some (.bor (.dK ks _))) => some (ks.map k2D)
  | _ => none
def rngL (lo hi : Int) : List D := (List.range (hi - lo).toNat).map fun (i : Nat) => .int (lo + (i : Int))
def rngOk (lo hi : Int) : Bool := decide (-(2 ^ 62) ≤ lo) && decide (lo < 2 ^ 62) && decide (-(2 ^ 62) ≤ hi) && decide (hi < 2 ^ 62) && decide ((hi - lo).toNat ≤ LIM)
def enumL : Nat → List D → List D
  | _, [] => []
  | n, d :: ds => .tup [.int n, d] :: enumL (n + 1) ds
def zipL : List D → List D → List D
  | a :: as, b :: bs => .tup [a, b] :: zipL as bs
  | _, _ => []
/-- by twos -/
def rngS (lo hi : Int) : List D := (List.range ((hi - lo + 1) / 2).toNat).map fun (i : Nat) => .int (lo + (i : Int) * 2)
def rngV (vs : List Val) : Option (List D) := match vs with
  | [.dat (.int j)] => if rngOk 0 j then some (rngL 0 j) else none
  | [.dat (.int i), .dat (.int j)] => if rngOk i j then some (rngL i j) else none
  | [.dat (.int i), .dat (.int j), .dat (.int k)] => if rngOk i j && decide (k = 2) && decide (((j - i + 1) / 2).toNat ≤ LIM) then some (rngS i j) else none
  | _ => none
/-- what list(..) takes: a text's signs, too -/
def asLS (st : Sto) (v : Val) : Option (List D) := match asLT st v with
  | some ds => some ds
  | none => match v with
    | .dat (.str w) => if w.length ≤ LIM then some (w.map fun c => .str [c]) else none
    | _ => none
def itLl (v : Val) : Option (List D) := match v with
  | .dat (.lst ds) => some ds
  | .dat (.scr ns) => some (ns.map .int)
  | .bor (.lst ds) => some ds
  | _ => none
def itQ (v : Val) : Option (List D) := match v with
  | .dat (.tup ds) => some ds
  | v => itLl v
def itZ (a b : Val) : Option (List D) := match a, b with
  | .dat (.tup xs), .dat (.tup ys) => some (zipL xs ys)
  | .dat (.tup _), _ => none
  | a, .dat (.tup ys) => (itLl a).map fun xs => zipL xs ys
  | a, b => (itLl a).bind fun xs => (itLl b).map fun ys => zipL xs ys
/-- the items of what is walked; nothing that a place holds -/
def itV (v : Val) : Option (List D) := match v with
  | .dat (.lst ds) => some ds
  | .dat (.tup ds) => some ds
  | .dat (.scr ns) => some (ns.map .int)
  | .bor (.lst ds) => some ds
  | .dat (.str w) => if w.length ≤ LIM then some (w.map fun c => .str [c]) else none
  | _ => none
def boolR (r : Val × Sto) : Option (Bool × Sto) := match r.1 with
  | .dat (.bl b) => some (b, r.2)
  | _ => none
def keyR : Val → Option K1
  | .dat d => toK d
  | _ => none
def anyTy (d : D) : List Ty → Option Bool
  | [] => some false
  | t :: ts => (isTy d t).bind fun b => (anyTy d ts).map fun c => b || c
/-! ### texts -/
/-- what sort of thing a method is asked of -/
def kindV (st : Sto) (v : Val) : Nat := match snap st v with
  | some (.lst _) => 1
  | some (.dK _ _) => 2
  | some (.dT _ _) => 2
  | some (.str _) => 3
  | _ => 0
def startsW : W → W → Bool
  | _, [] => true
  | a :: as, b :: bs => a == b && startsW as bs
  | [], _ :: _ => false
def joinW (sep : W) : List W → W
  | [] => []
  | [x] => x
  | x :: y :: r => x ++ sep ++ joinW sep (y :: r)
def sumL (ws : List W) : Nat := (ws.map List.length).sum
def updK {κ : Type} [DecidableEq κ] : List κ → List D → List κ → List D → List κ × List D
  | ks, ds, j :: js, e :: es => updK (dputK ks ds j e).1 (dputK ks ds j e).2 js es
  | ks, ds, _, _ => (ks, ds)
def mtV (m : Mt) (x : Val) (vs : List Val) (st : Sto) : Option (Val × Sto) := match m, x, vs with
  | .append, .ref l, [v] => (toD v st).bind fun q => match q.2[l]? with
    | some (.lst ds) => if ds.length < LIM then some (.dat .non, q.2.set l (.lst (ds ++ [q.1]))) else none
    | _ => none
  | .pop, .ref l, [] => match st[l]? with
    | some (.lst ds) => (ds[ds.length - 1]?).map fun d => (.dat d, st.set l (.lst ds.dropLast))
    | _ => none
  | .popAt, .ref l, [.dat (.int i)] => match st[l]? with
    | some (.lst ds) => if -(2 ^ 63) ≤ i ∧ i < 2 ^ 63 then (ix ds.length i).bind fun k => (ds[k]?).map fun d => (.dat d, st.set l (.lst (ds.eraseIdx k))) else none
    | _ => none
  | .clear, .ref l, [] => match st[l]? with
    | some (.lst _) => some (.dat .non, st.set l (.lst []))
    | some (.dK _ _) => some (.dat .non, st.set l (.dK [] []))
    | _ => none
  | .get, x, [.dat k, .dat d] => match snap st x with
    | some (.dK ks ds) => (toK k).map fun k => (.dat ((dlook ks ds k).getD d), st)
    | some (.dT ks ds) => (toTK k).map fun k => (.dat ((dlook ks ds k).getD d), st)
    | _ => none
  | .pop2, .ref l, [.dat k, .dat d] => match st[l]? with
    | some (.dT ks ds) => (toTK k).map fun k => match dlook ks ds k with
      | some v => (.dat v, st.set l (.dT (ddrop ks ds k).1 (ddrop ks ds k).2))
      | none => (.dat d, st)
    | _ => none
  | .join, .dat (.str s), [v] => (asLT st v).bind fun ds => (textsD ds).bind fun ws => if sumL ws + s.length * ws.length ≤ LIM then some (.dat (.str (joinW s ws)), st) else none
  | .startswith, .dat (.str a), [.dat (.str b)] => some (.dat (.bl (startsW a b)), st)
  | .update, .ref l, [.dat (.dK js es)] => match st[l]? with
    | some (.dK ks ds) => if ks.length + js.length ≤ LIM then some (.dat .non, st.set l (.dK (updK ks ds js es).1 (updK ks ds js es).2)) else none
    | _ => none
  | _, _, _ => none
mutual
noncomputable def evE (C : Calls) : E → Env → Sto → Option (Val × Sto)
  | .int i, _, st => some (.dat (.int i), st)
  | .bl b, _, st => some (.dat (.bl b), st)
  | .non, _, st => some (.dat .non, st)
  | .str w, _, st => some (.dat (.str w), st)
  | .var i, env, st => match env[i]? with
    | some (some v) => some (v, st)
    | _ => none
  | .gl _ d, _, st => some (.dat d, st)
  | .tup es, env, st => (evEs C es env st).bind fun r => (toDs r.1 r.2).map fun q => (.dat (.tup q.1), q.2)
  | .bin o a b, env, st => (evE C a env st).bind fun r => (evE C b env r.2).bind fun q => (binV o r.1 q.1 q.2).map fun v => (v, q.2)
  | .neg a, env, st => (evE C a env st).bind fun r => (intOf r.1).map fun i => (.dat (.int (-i)), r.2)
  | .not a, env, st => ((evE C a env st).bind boolR).map fun r => (.dat (.bl (!r.1)), r.2)
  | .and a b, env, st => ((evE C a env st).bind boolR).bind fun r => if r.1 then evE C b env r.2 else some (.dat (.bl false), r.2)
  | .or a b, env, st => ((evE C a env st).bind boolR).bind fun r => if r.1 then some (.dat (.bl true), r.2) else evE C b env r.2
  | .cmp o a b, env, st => (evE C a env st).bind fun r => (evE C b env r.2).bind fun q => (cmpV o r.1 q.1 q.2).map fun c => (.dat (.bl c), q.2)
  | .chain o o' a b c, env, st => (evE C a env st).bind fun r => (evE C b env r.2).bind fun q => (cmpV o r.1 q.1 q.2).bind fun t =>
      if t then (evE C c env q.2).bind fun s => (cmpV o' q.1 s.1 s.2).map fun t => (.dat (.bl t), s.2) else some (.dat (.bl false), q.2)
  | .ite c a b, env, st => ((evE C c env st).bind boolR).bind fun r => if r.1 then evE C a env r.2 else evE C b env r.2
  | .idx a i, env, st => (evE C a env st).bind fun r => (evE C i env r.2).bind fun q => (idxV r.1 q.1 q.2).map fun d => (.dat d, q.2)
  | .slc a lo hi, env, st => (evE C a env st).bind fun r => (evP C lo env r.2).bind fun l => (evP C hi env l.2).bind fun h => (slcV r.1 l.1 h.1 h.2).map fun d => (.dat d, h.2)
  | .call f m es, env, st => (evEs C es env st).bind fun r => (callV C f m r.1 r.2).bind fun q => match q.1 with
    | .dat d => some (.dat d, q.2)
    | .own o => (fzO o).map fun d => (.dat d, q.2)
    | .val _ => none
  | .callA f m es, env, st => (evEs C es env st).bind fun r => (callV C f m r.1 r.2).bind fun q => match q.1 with
    | .dat _ => none
    | .own o => some (.ref q.2.length, q.2 ++ [o])
    | .val _ => none
  | .bi b es, env, st => (evEs C es env st).bind fun r => (biV b r.1 r.2).map fun d => (.dat d, r.2)
  | .mt m o es, env, st => (evE C o env st).bind fun r => (evEs C es env r.2).bind fun q => if kindV r.2 r.1 = kindV q.2 r.1 then mtV m r.1 q.1 q.2 else none
  | .isi a ts, env, st => (evE C a env st).bind fun r => (snap r.2 r.1).bind fun d => (anyTy d ts).map fun b => (.dat (.bl b), r.2)
  | .fz o, env, st => (evO C o env st).bind fun r => (fzO r.1).map fun d => (.dat d, r.2)
  | .new o, env, st => (evO C o env st).map fun r => (.ref r.2.length, r.2 ++ [r.1])
  | .attr c a x, env, st => (evE C a env st).bind fun r => ((insV c r.1 r.2).bind fun fs => fs.lookup x).map fun v => (v, r.2)
  | .meth c f x o es, env, st => (evE C o env st).bind fun r => (insV c r.1 r.2).bind fun fs => if (fs.lookup x).isSome then none else
      (evEs C es env r.2).bind fun q => (C f (r.1 :: q.1) q.2).bind valR
  | .make g es, env, st => (evEs C es env st).bind fun q => (C g q.1 q.2).bind valR
noncomputable def evEs (C : Calls) : List E → Env → Sto → Option (List Val × Sto)
  | [], _, st => some ([], st)
  | e :: es, env, st => (evE C e env st).bind fun r => (evEs C es env r.2).map fun q => (r.1 :: q.1, q.2)
noncomputable def evP (C : Calls) : Option E → Env → Sto → Option (Option Int × Sto)
  | none, _, st => some (none, st)
  | some e, env, st => (evE C e env st).bind fun r => (intOf r.1).map fun i => (some i, r.2)
noncomputable def evC (C : Calls) : Option E → Env → Sto → Option (Bool × Sto)
  | none, _, st => some (true, st)
  | some e, env, st => (evE C e env st).bind boolR
noncomputable def evO (C : Calls) : O → Env → Sto → Option (Obj × Sto)
  | .lst es, env, st => (evEs C es env st).bind fun r => (toDs r.1 r.2).map fun q => (.lst q.1, q.2)
  | .dic kvs, env, st => (evKV C kvs env st).map fun r => (.dK r.1.1 r.1.2, r.2)
  | .dicT, _, st => some (.dT [] [], st)
  | .comp elt tg tup it c own, env, st => (evI C it env st).bind fun r =>
      (compV own (wipeE env own) (fun d e => bindT tg tup d e) (fun e s => evC C c e s) (fun e s => evE C elt e s) r.1 r.2).map fun q => (.lst q.1, q.2)
  | .compP elt tg tup i c own, env, st => (plV env i st).bind fun r =>
      (compG (lstS r.1 r.2) own (wipeE env own) (fun d e => bindT tg tup d e) (fun e s => evC C c e s) (fun e s => evE C elt e s) r.2 st).map fun q => (.lst q.1, q.2)
  | .compD elt tg tup i c own, env, st => (kyV env i).bind fun r =>
      (compV own (wipeE env own) (fun d e => bindT tg tup d e) (fun e s => evC C c e s) (fun e s => evE C elt e s) r st).map fun q => (.lst q.1, q.2)
  | .list a, env, st => (evE C a env st).bind fun r => (asLS r.2 r.1).map fun ds => (.lst ds, r.2)
  | .dict a, env, st => (evE C a env st).bind fun r => (asDK r.2 r.1).map fun q => (.dK q.1 q.2, r.2)
  | .cut a lo hi, env, st => (evE C a env st).bind fun r => (evP C lo env r.2).bind fun l => (evP C hi env l.2).bind fun h => (asL h.2 r.1).map fun ds => (.lst (cutL ds l.1 h.1), h.2)
  | .cat a b, env, st => (evE C a env st).bind fun r => (evE C b env r.2).bind fun q => (asX q.2 r.1).bind fun xs => (asX q.2 q.1).bind fun ys =>
      if xs.length + ys.length ≤ LIM then some (.lst (xs ++ ys), q.2) else none
  | .rep a b, env, st => (evE C a env st).bind fun r => (evE C b env r.2).bind fun q => (asX q.2 r.1).bind fun xs => (intOf q.1).bind fun k =>
      if xs.length * k.toNat ≤ LIM ∧ -(2 ^ 63) ≤ k ∧ k < 2 ^ 63 then some (.lst (List.replicate k.toNat xs).flatten, q.2) else none
  | .evn a, env, st => (evE C a env st).bind fun r => (asL r.2 r.1).map fun ds => (.lst (evens ds), r.2)
noncomputable def evKV (C : Calls) : List E → Env → Sto → Option ((List K1 × List D) × Sto)
  | [], _, st => some (([], []), st)
  | k :: v :: r, env, st => (evE C k env st).bind fun x => (evE C v env x.2).bind fun y => (toD y.1 y.2).bind fun p => (evKV C r env p.2).bind fun t => (keyR x.1).bind fun k =>
      if (dlook t.1.1 t.1.2 k).isSome then none else some ((k :: t.1.1, p.1 :: t.1.2), t.2)
  | [_], _, _ => none
noncomputable def evI (C : Calls) : I → Env → Sto → Option (List D × Sto)
  | .e a, env, st => (evE C a env st).bind fun r => (itV r.1).map fun ds => (ds, r.2)
  | .rng es, env, st => (evEs C es env st).bind fun r => (rngV r.1).map fun ds => (ds, r.2)
  | .enum a, env, st => (evE C a env st).bind fun r => (itQ r.1).map fun ds => (enumL 0 ds, r.2)
  | .zip a b, env, st => (evE C a env st).bind fun r => (evE C b env r.2).bind fun q => (itZ r.1 q.1).map fun ds => (ds, q.2)
  | .rev a, env, st => (evE C a env st).bind fun r => (itV r.1).map fun ds => (ds.reverse, r.2)
  | .revr es, env, st => (evEs C es env st).bind fun r => (rngV r.1).map fun ds => (ds.reverse, r.2)
end
end NK
set_option Elab.async false
set_option linter.all false
set_option autoImplicit false
set_option maxRecDepth 100000
/-! NkC: statements and functions. -/
namespace NK
open PySem PySem.Spec L2
inductive Out where | nx (env : Env) (st : Sto) | rt (v : Val) (st : Sto)
def storeV (o k : Val) (d : D) (st : Sto) : Option Sto := match o, k with
  | .ref l, .dat k => match st[l]? with
    | some (.lst ds) => (match k with | .int i => (ix ds.length i).map fun j => st.set l (.lst (ds.set j d)) | _ => none)
    | some (.dK ks ds) => (toK k).bind fun k => if ks.length < LIM then some (st.set l (.dK (dputK ks ds k d).1 (dputK ks ds k d).2)) else none
    | some (.dT ks ds) => (toTK k).bind fun k => if ks.length < LIM then some (st.set l (.dT (dputK ks ds k d).1 (dputK ks ds k d).2)) else none
    | _ => none
  | _, _ => none
def extV (l : Nat) (v : Val) (st : Sto) : Option Sto := match st[l]? with
  | some (.lst ds) => (asX st v).bind fun es => if ds.length + es.length ≤ LIM then some (st.set l (.lst (ds ++ es))) else none
  | _ => none
section
variable (c : Env → Sto → Option (Bool × Sto)) (b : Env → Sto → Option Out)
def whI : Nat → Env → Sto → Option Out
  | 0, _, _ => none
  | n + 1, env, st => (c env st).bind fun r => if r.1 then (b env r.2).bind fun o => match o with
      | .nx e s => whI n e s
      | .rt v s => some (.rt v s)
    else some (.nx env r.2)
theorem whI_mono : ∀ {n m : Nat} {env : Env} {st : Sto} {o : Out}, n ≤ m → whI c b n env st = some o → whI c b m env st = some o
  | 0, _, _, _, _, _, h => by simp [whI] at h
  | n + 1, 0, _, _, _, hn, _ => by omega
  | n + 1, m + 1, env, st, o, hn, h => by
    simp only [whI] at h ⊢
    cases hc : c env st with
    | none => rw [hc] at h; simp at h
    | some r =>
      rw [hc] at h
      simp only [Option.bind_some] at h ⊢
      by_cases ht : r.1 = true
      · rw [if_pos ht] at h ⊢
        cases hb : b env r.2 with
        | none => rw [hb] at h; simp at h
        | some q =>
          rw [hb] at h
          simp only [Option.bind_some] at h ⊢
          cases q with
          | nx e s => exact whI_mono (by omega) h
          | rt v s => exact h
      · rw [if_neg ht] at h ⊢
        exact h
open Classical in
noncomputable def whV (env : Env) (st : Sto) : Option Out := if h : ∃ n, (whI c b n env st).isSome = true then whI c b h.choose env st else none
theorem whV_of {n : Nat} {env : Env} {st : Sto} {o : Out} (h : whI c b n env st = some o) : whV c b env st = some o := by
  have hx : ∃ n, (whI c b n env st).isSome = true := ⟨n, by rw [h]; rfl⟩
  unfold whV
  rw [dif_pos hx]
  cases e : whI c b hx.choose env st with
  | none => have := hx.choose_spec; rw [e] at this; cases this
  | some q =>
    have h1 := whI_mono c b (Nat.le_max_left n hx.choose) h
    have h2 := whI_mono c b (Nat.le_max_right n hx.choose) e
    rw [h1] at h2
    exact h2.symm
theorem whV_some {env : Env} {st : Sto} {o : Out} (h : whV c b env st = some o) : ∃ n, whI c b n env st = some o := by
  unfold whV at h
  split at h
  · exact ⟨_, h⟩
  · cases h
theorem whV_eq (env : Env) (st : Sto) : whV c b env st = (c env st).bind fun r => if r.1 then (b env r.2).bind fun o => match o with
      | .nx e s => whV c b e s
      | .rt v s => some (.rt v s)
    else some (.nx env r.2) := by
  cases hc : c env st with
  | none =>
    simp only [Option.bind_none]
    cases hw : whV c b env st with
    | none => rfl
    | some o =>
      obtain ⟨n, hn⟩ := whV_some c b hw
      cases n with
      | zero => simp [whI] at hn
      | succ n => simp [whI, hc] at hn
  | some r =>
    simp only [Option.bind_some]
    by_cases ht : r.1 = true
    · rw [if_pos ht]
      cases hb : b env r.2 with
      | none =>
        simp only [Option.bind_none]
        cases hw : whV c b env st with
        | none => rfl
        | some o =>
          obtain ⟨n, hn⟩ := whV_some c b hw
          cases n with
          | zero => simp [whI] at hn
          | succ n => simp [whI, hc, ht, hb] at hn
      | some q =>
        simp only [Option.bind_some]
        cases q with
        | rt v s => exact whV_of c b (n := 1) (by simp [whI, hc, ht, hb])
        | nx e s =>
          show whV c b env st = whV c b e s
          cases hw : whV c b e s with
          | some o =>
            obtain ⟨n, hn⟩ := whV_some c b hw
            exact whV_of c b (n := n + 1) (by simp [whI, hc, ht, hb, hn])
          | none =>
            cases hv : whV c b env st with
            | none => rfl
            | some o =>
              obtain ⟨n, hn⟩ := whV_some c b hv
              cases n with
              | zero => simp [whI] at hn
              | succ n =>
                have hn' : whI c b n e s = some o := by simpa [whI, hc, ht, hb] using hn
                rw [whV_of c b hn'] at hw; cases hw
    · rw [if_neg ht]
      exact whV_of c b (n := 1) (by simp [whI, hc, ht])
end
def forV (bind : D → Env → Option Env) (body : Env → Sto → Option Out) : List D → Env → Sto → Option Out
  | [], env, st => some (.nx env st)
  | d :: ds, env, st => (bind d env).bind fun e1 => (body e1 st).bind fun o => match o with
    | .nx e s => forV bind body ds e s
    | .rt v s => some (.rt v s)
open Classical in
/-- .. as long as the store keeps G -/
noncomputable def forG (G : Sto → Prop) (bind : D → Env → Option Env) (body : Env → Sto → Option Out) : List D → Env → Sto → Option Out
  | [], env, st => some (.nx env st)
  | d :: ds, env, st => (bind d env).bind fun e1 => (body e1 st).bind fun o => match o with
    | .nx e s => if G s then forG G bind body ds e s else none
    | .rt v s => some (.rt v s)
theorem forG_any {bind : D → Env → Option Env} {body : Env → Sto → Option Out} : ∀ (ds : List D) (env : Env) (st : Sto), forG anyS bind body ds env st = forV bind body ds env st
  | [], env, st => rfl
  | d :: ds, env, st => by
    have t : ∀ s, anyS s = True := fun _ => rfl
    simp only [forG, forV, t, if_true, forG_any ds]
def augV : BOp → Int → Int → Option Int
  | .add, i, j => some (i + j)
  | .sub, i, j => some (i - j)
  | _, _, _ => none
mutual
noncomputable def evS (C : Calls) : St → Env → Sto → Option Out
  | .set i e, env, st => (evE C e env st).map fun r => .nx (env.set i (some r.1)) r.2
  | .setT is e, env, st => (evE C e env st).bind fun r => (asU r.1).bind fun ds => (bindT.go is ds env).map fun e1 => .nx e1 r.2
  | .par i j a b, env, st => (evE C a env st).bind fun r => (evE C b env r.2).map fun q => .nx ((env.set i (some r.1)).set j (some q.1)) q.2
  | .sub o k v, env, st => (evE C v env st).bind fun r => (toD r.1 r.2).bind fun d => (evE C o env d.2).bind fun p => (evE C k env p.2).bind fun q => (storeV p.1 q.1 d.1 q.2).map fun s => .nx env s
  | .aug i o e, env, st => match env[i]? with
    | some (some (.dat (.int x))) => (evE C e env st).bind fun r => (intOf r.1).bind fun y => match o with
      | .add => some (.nx (env.set i (some (.dat (.int (x + y))))) r.2)
      | .sub => some (.nx (env.set i (some (.dat (.int (x - y))))) r.2)
      | _ => none
    | _ => none
  | .ext i e, env, st => match env[i]? with
    | some (some (.ref l)) => (evE C e env st).bind fun r => (extV l r.1 r.2).map fun s => .nx env s
    | _ => none
  | .expr e, env, st => (evE C e env st).map fun r => .nx env r.2
  | .ifS c a b, env, st => ((evE C c env st).bind boolR).bind fun r => if r.1 then evSs C a env r.2 else evSs C b env r.2
  | .wh c b, env, st => whV (fun e s => (evE C c e s).bind boolR) (fun e s => evSs C b e s) env st
  | .forS tg tup it b, env, st => (evI C it env st).bind fun r => forV (fun d e => bindT tg tup d e) (fun e s => evSs C b e s) r.1 env r.2
  | .forP tg tup i b, env, st => (plV env i st).bind fun r => forG (lstS r.1 r.2) (fun d e => bindT tg tup d e) (fun e s => evSs C b e s) r.2 env st
  | .forD tg tup i b, env, st => (kyV env i).bind fun r => forV (fun d e => bindT tg tup d e) (fun e s => evSs C b e s) r env st
  | .ret e, env, st => (evE C e env st).map fun r => .rt r.1 r.2
  | .retN, _, st => some (.rt (.dat .non) st)
  | .pass, env, st => some (.nx env st)
  | .nev, _, _ => none
  | .frz i, env, st => match env[i]? with
    | some (some v) => (toD v st).map fun q => .nx (env.set i (some (.dat q.1))) q.2
    | _ => none
  | .setA c o x v, env, st => (evE C v env st).bind fun r => (evE C o env r.2).bind fun q => (setAV c x q.1 r.1 q.2).map fun s => .nx env s
  | .augA c o x op v, env, st => (evE C o env st).bind fun r => ((insV c r.1 r.2).bind fun fs => (fs.lookup x).bind intOf).bind fun i => (evE C v env r.2).bind fun q => (intOf q.1).bind fun j => (augV op i j).bind fun k => (setAV c x r.1 (.dat (.int k)) q.2).map fun s => .nx env s
noncomputable def evSs (C : Calls) : List St → Env → Sto → Option Out
  | [], env, st => some (.nx env st)
  | s :: ss, env, st => (evS C s env st).bind fun o => match o with
    | .nx e s => evSs C ss e s
    | .rt v s => some (.rt v s)
end
/-- a def, a method, or the making of an instance of the class c by its __init__ i -/
inductive Kind where | fn | me | mk (c i : Nat)
/-- a function: how many parameters and names, and its body -/
structure Fn where
  ps : Nat
  ns : Nat
  body : List St
  kind : Kind
abbrev Prog := Nat → Option Fn
def startE (f : Fn) (args : List Val) : Env := args.map some ++ List.replicate (f.ns - f.ps) none
/-- what a body's end gives back; k: the places that were handed in -/
def endV (k : Nat) : Out → Option (Ret × Sto)
  | .nx _ st => some (.dat .non, st.take k)
  | .rt (.dat d) st => some (.dat d, st.take k)
  | .rt (.ref l) st => if l < k then none else (st[l]?).bind fun o => match fzO o with
    | some _ => some (.own o, st.take k)
    | none => none
  | .rt _ _ => none
noncomputable def runF (C : Calls) (f : Fn) (args : List Val) (st : Sto) : Option (Ret × Sto) :=
  if args.length = f.ps then ((evSs C f.body (startE f args) st).bind (endV st.length)).bind fun q => if q.2.all flat then some q else none else none
/-- what a method's body comes to: the places stay -/
def endM : Out → Ret × Sto
  | .nx _ st => (.val (.dat .non), st)
  | .rt v st => (.val v, st)
noncomputable def runM (C : Calls) (f : Fn) (args : List Val) (st : Sto) : Option (Ret × Sto) :=
  if args.length = f.ps then (evSs C f.body (startE f args) st).map endM else none
/-- C(..): a new instance, then its __init__ -/
def runK (C : Calls) (f : Fn) (c i : Nat) (args : List Val) (st : Sto) : Option (Ret × Sto) :=
  if args.length = f.ps then (C i (.ref st.length :: args) (st ++ [.ins c []])).bind fun q => match q.1 with
    | .val (.dat .non) => some (.val (.ref st.length), q.2)
    | _ => none
  else none
noncomputable def call (P : Prog) : Nat → Calls
  | 0, _, _, _ => none
  | d + 1, f, args, st => (P f).bind fun fn => match fn.kind with
    | .fn => runF (call P d) fn args st
    | .me => runM (call P d) fn args st
    | .mk c i => runK (call P d) fn c i args st
end NK
set_option Elab.async false
set_option linter.all false
set_option autoImplicit false
set_option maxRecDepth 100000
/-! NkD: expressions: what the machine does is what is reckoned. -/
namespace NK
open PySem PySem.Spec L2
section
variable (K : PySem.W.Frag) (cs : Nat → Option Addr)
def tE (f : Env → Sto → Option (Val × Sto)) : TE := fun σ H Q => ∃ F B as env st v st', Rel K cs F B as env st σ H ∧ f env st = some (v, st') ∧
  ∀ F' as' H' u, Rel K cs F' B as' env st' σ H' → Ext F as H F' as' H' → VOk K F' B as' v u → Q u H'
def tB (f : Env → Sto → Option (Bool × Sto)) : TT := fun σ H Q => ∃ F B as env st b st', Rel K cs F B as env st σ H ∧ f env st = some (b, st') ∧
  ∀ F' as' H', Rel K cs F' B as' env st' σ H' → Ext F as H F' as' H' → Q b H'
def tEs (f : Env → Sto → Option (List Val × Sto)) : TA := fun σ H Q => ∃ F B as env st vs st', Rel K cs F B as env st σ H ∧ f env st = some (vs, st') ∧
  ∀ F' as' H' us, Rel K cs F' B as' env st' σ H' → Ext F as H F' as' H' → Paired (VOk K F' B as') vs us → Q us H'
def tP (f : Env → Sto → Option (Option Int × Sto)) : TO := fun σ H Q => ∃ F B as env st v st', Rel K cs F B as env st σ H ∧ f env st = some (v, st') ∧
  ∀ F' as' H', Rel K cs F' B as' env st' σ H' → Ext F as H F' as' H' → Q v H'
def tO (f : Env → Sto → Option (Obj × Sto)) : TE := fun σ H Q => ∃ F B as env st o st', Rel K cs F B as env st σ H ∧ f env st = some (o, st') ∧
  ∀ F' as' H' p ho, Rel K cs F' B as' env st' σ H' → Ext F as H F' as' H' → H p = none → F' p = none → p ∉ as' → H' p = some ho → OOk K cs F' B as' o ho → Q (.ref p) H'
end
section
variable {X : Cx} {cs : Nat → Option Addr} {e e1 e2 e3 : Expr} {f f1 f2 f3 : Env → Sto → Option (Val × Sto)} {pos : Pos}
theorem _root_.L2.PE.weak {t t' : TE} (h : PE X e t) (w : ∀ σ H Q, t' σ H Q → t σ H Q) : PE X e t' := ⟨fun pins s σ H Q I q => h.run pins s σ H Q I (w σ H Q q)⟩
theorem _root_.L2.PT.weak {t t' : TT} (h : PT X e t) (w : ∀ σ H Q, t' σ H Q → t σ H Q) : PT X e t' := ⟨fun pins s σ H Q I q => h.run pins s σ H Q I (w σ H Q q)⟩
theorem _root_.L2.PW.weak {t t' : TT} (h : PW X e t) (w : ∀ σ H Q, t' σ H Q → t σ H Q) : PW X e t' := ⟨fun wh pins s σ H Q I q => h.run wh pins s σ H Q I (w σ H Q q)⟩
theorem _root_.L2.PA.weak {es : List Expr} {t t' : TA} (h : PA X es t) (w : ∀ σ H Q, t' σ H Q → t σ H Q) : PA X es t' := ⟨fun pos pins s σ H Q I q => h.run pos pins s σ H Q I (w σ H Q q)⟩
theorem _root_.L2.PO.weak {e : Option Expr} {t t' : TO} (h : PO X e t) (w : ∀ σ H Q, t' σ H Q → t σ H Q) : PO X e t' := by
  obtain ⟨r⟩ := h
  exact ⟨fun pins s σ H Q I q => r pins s σ H Q I (w σ H Q q)⟩
theorem obnd {α β : Type} {o : Option α} {g : α → Option β} {b : β} (h : o.bind g = some b) : ∃ a, o = some a ∧ g a = some b := Option.bind_eq_some_iff.mp h
theorem omap {α β : Type} {o : Option α} {g : α → β} {b : β} (h : o.map g = some b) : ∃ a, o = some a ∧ g a = b := Option.map_eq_some_iff.mp h
/-! ### names, constants -/
theorem s_var {i : Nat} (h : PE X e (tVar i)) : PE X e (tE X.K cs fun env st => match env[i]? with | some (some v) => some (v, st) | _ => none) := h.weak fun σ H Q ⟨F, B, as, env, st, v, st', r, ev, k⟩ => by
  dsimp only at ev
  split at ev
  · rename_i w hw
    cases ev
    obtain ⟨u, e1, e2⟩ := r.slot i _ hw
    exact ⟨u, e1, k F as H u r r.refl e2⟩
  · cases ev
theorem s_const {u : V} {d : D} (h : PE X e (tC u)) (hd : ∀ F, Den X.K F d u) : PE X e (tE X.K cs fun _ st => some (.dat d, st)) := h.weak fun σ H Q ⟨F, B, as, env, st, v, st', r, ev, k⟩ => by
  cases ev
  exact k F as H u r r.refl (hd F)
/-! ### two parts, one behind the other -/
/-- from the reckoning of both to the machine's way -/
theorem two {Q : VK} {σ : L2.St} {H : Hp} {F B : Hp} {as : List Addr} {env : Env} {st : Sto} {a b : Val × Sto} (r : Rel X.K cs F B as env st σ H) (h1 : f1 env st = some a) (h2 : f2 env a.2 = some b) {R : V → V → Hp → VK → Prop}
    (k : ∀ F' as' H' u w, Rel X.K cs F' B as' env b.2 σ H' → Ext F as H F' as' H' → VOk X.K F' B as' a.1 u → VOk X.K F' B as' b.1 w → R u w H' Q) :
    tOp R (tE X.K cs f1) (tE X.K cs f2) σ H Q :=
  ⟨F, B, as, env, st, a.1, a.2, r, h1, fun F1 as1 H1 u r1 x1 v1 => ⟨F1, B, as1, env, a.2, b.1, b.2, r1, h2, fun F2 as2 H2 w r2 x2 v2 => k F2 as2 H2 u w r2 (x1.trans x2) (v1.ext x2) v2⟩⟩
/-! ### what a value tells of the heap -/
section
variable {F B H : Hp} {as : List Addr} {env : Env} {st : Sto} {σ : L2.St}
theorem snap_top (r : RSt X.K cs F B as st H) {v : Val} {u : V} {d : D} (h : snap st v = some d) (q : VOk X.K F B as v u) :
    (∃ d', v = .dat d' ∧ d' = d ∧ Den X.K F d u) ∨ Top X.K H F d u := by
  cases v with
  | dat d' => simp only [snap] at h; cases h; exact .inl ⟨_, rfl, rfl, q⟩
  | bor d' =>
    simp only [snap] at h; cases h
    right
    cases d <;> first | exact q.elim | skip
    · obtain ⟨p, us, e, a, b⟩ := q; exact ⟨p, us, e, r.bh _ _ a, b⟩
    · obtain ⟨p, us, e, a, l, b⟩ := q; exact ⟨p, us, e, rd_mono r.bh a, l, b⟩
    · obtain ⟨p, us, e, a, l, b⟩ := q; exact ⟨p, us, e, rd_mono r.bh a, l, b⟩
  | ref l =>
    simp only [snap] at h
    obtain ⟨o, ho, hf⟩ := obnd h
    obtain ⟨a, ea, rfl⟩ := q
    obtain ⟨_, hb, e1, e2⟩ := r.obj l a o ea ho
    right
    cases o with
    | lst ds => simp only [fzO] at hf; cases hf; obtain ⟨us, rfl, b⟩ := e2; exact ⟨a, us, rfl, e1, b⟩
    | dK ks ds => simp only [fzO] at hf; cases hf; obtain ⟨us, rfl, l, b⟩ := e2; exact ⟨a, us, rfl, .inl e1, l, b⟩
    | dT ks ds => simp only [fzO] at hf; cases hf; obtain ⟨us, rfl, l, b⟩ := e2; exact ⟨a, us, rfl, .inl e1, l, b⟩
    | ins _ _ => simp [fzO] at hf
    | dead => simp [fzO] at hf
theorem scrs (ns : List Int) : Dens X.K F (ns.map .int) (ns.map V.int) := by
  induction ns with
  | nil => exact Dens.nil.mpr rfl
  | cons n ns ih => exact Dens.cons.mpr ⟨_, _, rfl, Den.int_iff.mpr rfl, ih⟩
theorem Top.of {d : D} {u : V} (r : RSt X.K cs F B as st H) (q : Den X.K F d u) : (match d with | .lst _ => True | .dK _ _ => True | .dT _ _ => True | _ => False) → Top X.K H F d u := fun z => by
  cases d <;> first | exact z.elim | skip
  · obtain ⟨p, us, e, a, b⟩ := Den.lst_iff.mp q; exact ⟨p, us, e, r.fh _ _ a, b⟩
  · obtain ⟨p, us, e, a, l, b⟩ := Den.dK_iff.mp q; exact ⟨p, us, e, rd_mono r.fh a, l, b⟩
  · obtain ⟨p, us, e, a, l, b⟩ := Den.dT_iff.mp q; exact ⟨p, us, e, rd_mono r.fh a, l, b⟩
theorem top_lst (r : RSt X.K cs F B as st H) {v : Val} {u : V} {ds : List D} (h : snap st v = some (.lst ds)) (q : VOk X.K F B as v u) : ∃ p us, u = .ref p ∧ H p = some (.lst us) ∧ Dens X.K F ds us := by
  rcases snap_top r h q with ⟨d', rfl, rfl, z⟩ | z
  · exact Top.of r z trivial
  · exact z
theorem top_scr (r : RSt X.K cs F B as st H) {v : Val} {u : V} {ns : List Int} (h : snap st v = some (.scr ns)) (q : VOk X.K F B as v u) : ∃ p, u = .ref p ∧ SqL X.K H p (ns.map V.int) := by
  rcases snap_top r h q with ⟨d', rfl, rfl, z⟩ | z
  · obtain ⟨p, e, a⟩ := Den.scr_iff.mp z
    exact ⟨p, e, sqL_mono r.fh a⟩
  · exact z.elim
theorem top_dK (r : RSt X.K cs F B as st H) {v : Val} {u : V} {ks : List K1} {ds : List D} (h : snap st v = some (.dK ks ds)) (q : VOk X.K F B as v u) : ∃ p us, u = .ref p ∧ Rd H p (.dK ((ks.map kk).zip us)) ∧ ks.length = ds.length ∧ Dens X.K F ds us := by
  rcases snap_top r h q with ⟨d', rfl, rfl, z⟩ | z
  · exact Top.of r z trivial
  · exact z
theorem top_dT (r : RSt X.K cs F B as st H) {v : Val} {u : V} {ks : List (List K1)} {ds : List D} (h : snap st v = some (.dT ks ds)) (q : VOk X.K F B as v u) : ∃ p us, u = .ref p ∧ Rd H p (.dT ((ks.map (·.map kk)).zip us)) ∧ ks.length = ds.length ∧ Dens X.K F ds us := by
  rcases snap_top r h q with ⟨d', rfl, rfl, z⟩ | z
  · exact Top.of r z trivial
  · exact z
theorem top_tup (r : RSt X.K cs F B as st H) {v : Val} {u : V} {ds : List D} (h : snap st v = some (.tup ds)) (q : VOk X.K F B as v u) : ∃ p us, u = .ref p ∧ H p = some (.tup us) ∧ Dens X.K F ds us := by
  rcases snap_top r h q with ⟨d', rfl, rfl, z⟩ | z
  · obtain ⟨p, us, e, a, b⟩ := Den.tup_iff.mp z; exact ⟨p, us, e, r.fh _ _ a, b⟩
  · exact z.elim
theorem asL_ok (r : RSt X.K cs F B as st H) {v : Val} {u : V} {ds : List D} (h : asL st v = some ds) (q : VOk X.K F B as v u) : ∃ p us, u = .ref p ∧ SqL X.K H p us ∧ Dens X.K F ds us := by
  unfold asL at h
  split at h
  · rename_i es hs
    cases h
    obtain ⟨p, us, e, a, b⟩ := top_lst r hs q
    exact ⟨p, us, e, .of a, b⟩
  · rename_i ns hs
    cases h
    obtain ⟨p, e, a⟩ := top_scr r hs q
    exact ⟨p, _, e, a, scrs ns⟩
  · cases h
theorem asX_ok (r : RSt X.K cs F B as st H) {v : Val} {u : V} {ds : List D} (h : asX st v = some ds) (q : VOk X.K F B as v u) : ∃ p us, u = .ref p ∧ H p = some (.lst us) ∧ Dens X.K F ds us := by
  unfold asX at h
  split at h
  · rename_i es hs
    cases h
    exact top_lst r hs q
  · cases h
theorem asT_ok (r : RSt X.K cs F B as st H) {v : Val} {u : V} {ds : List D} (h : asT v = some ds) (q : VOk X.K F B as v u) : ∃ p us, u = .ref p ∧ H p = some (.tup us) ∧ Dens X.K F ds us := by
  unfold asT at h
  split at h
  · cases h
    obtain ⟨p, us, e, a, b⟩ := Den.tup_iff.mp q
    exact ⟨p, us, e, r.fh _ _ a, b⟩
  · cases h
theorem asLT_ok (r : RSt X.K cs F B as st H) {v : Val} {u : V} {ds : List D} (h : asLT st v = some ds) (q : VOk X.K F B as v u) : ∃ p us, u = .ref p ∧ (SqL X.K H p us ∨ SqT X.K H p us) ∧ Dens X.K F ds us := by
  unfold asLT at h
  split at h
  · rename_i es hs
    cases h
    obtain ⟨p, us, e, a, b⟩ := asT_ok r hs q
    exact ⟨p, us, e, .inr (.of a), b⟩
  · obtain ⟨p, us, e, a, b⟩ := asL_ok r h q
    exact ⟨p, us, e, .inl a, b⟩
/-- a new frozen list, tuple, .. handed on -/
theorem Rel.put (r : Rel X.K cs F B as env st σ H) {p : Addr} {o : HO} {d : D} (hp : H p = none) (hd : ∀ F', (∀ a x, F a = some x → F' a = some x) → F' p = some o → Den X.K F' d (.ref p)) :
    Rel X.K cs (upd F p o) B as env st σ (upd H p o) ∧ Ext F as H (upd F p o) as (upd H p o) ∧ VOk X.K (upd F p o) B as (.dat d) (.ref p) := by
  obtain ⟨a, x⟩ := r.frozen (o := o) hp
  exact ⟨a, x, hd _ x.ff upd_same⟩
end
theorem line_eq : LIM = sizeLine := by rw [sizeLine_eq]; rfl
theorem _root_.L2.HOk.lst_le {P : Program} {w : World} {H : Hp} {h : Heap} (x : HOk P w H h) {p : Addr} {us : List V} (e : H p = some (.lst us)) : us.length ≤ sizeLine := (x p _ e).1
theorem _root_.L2.HOk.tup_le {P : Program} {w : World} {H : Hp} {h : Heap} (x : HOk P w H h) {p : Addr} {us : List V} (e : H p = some (.tup us)) : us.length ≤ sizeLine := (x p _ e).1
end
end NK
set_option Elab.async false
set_option linter.all false
set_option autoImplicit false
set_option maxRecDepth 100000
/-! NkE: operators. -/
namespace NK
open PySem PySem.Spec PyProof.Rows L2
section
variable {X : Cx} {cs : Nat → Option Addr} {e e1 e2 e3 : Expr} {f f1 f2 f3 : Env → Sto → Option (Val × Sto)} {pos : Pos}
theorem okMul_ok {i j : Int} (h : okMul i j = true) : IntMulOk i j := by
  have h3 : i.natAbs.log2 + j.natAbs.log2 < 100000000 := of_decide_eq_true h
  have b : ∀ x : Int, Builtin.Int.intBits x ≤ x.natAbs.log2 + 1 := fun x => by
    unfold Builtin.Int.intBits
    split <;> omega
  have h1 := b i
  have h2 := b j
  have e : bitsLine = 134217728 := by decide
  unfold IntMulOk
  intro z
  rw [Bool.and_eq_true] at z
  have z2 := z.2
  unfold Builtin.Int.intTooBig at z2
  have z3 := of_decide_eq_true z2
  rw [e] at z3
  omega
theorem op_mulG : OpR X (binaryOp .Mult) (rI (fun i j => okMul i j = true) fun i j => .int (i * j)) := opI fun _ _ _ _ _ _ _ hc q => mul_int q (okMul_ok hc)
theorem op_fdivG : OpR X (binaryOp .FloorDiv) (rI (fun _ j => okDiv j = true) fun i j => .int (i.fdiv j)) := opI fun i j _ _ _ _ _ hc q => by
  unfold okDiv at hc
  rw [Bool.and_eq_true, decide_eq_true_eq, decide_eq_true_eq] at hc
  exact floordiv_int hc.1 q (.inl (PyProof.noPylong_of_log2 hc.2))
theorem ltW_lt : ∀ a b : W, decide (a < b) = ltW a b
  | [], [] => by simp [ltW]
  | [], _ :: _ => by simp [ltW]
  | _ :: _, [] => by simp [ltW]
  | a :: r, b :: t => by
    have ih := ltW_lt r t
    rw [ltW, ← ih]
    rw [Bool.eq_iff_iff]
    simp [List.cons_lt_cons_iff]
theorem ltW_cps (a b : W) : decide ((S a).cps.toList < (S b).cps.toList) = ltW a b := by rw [S_cps, S_cps]; exact ltW_lt a b
/-- the machine's operator -/
def opB : BOp → Operator
  | .add => .Add | .sub => .Sub | .mul => .Mult | .fdiv => .FloorDiv | .mod => .Mod | .pow => .Pow | .shl => .LShift
theorem s_bin {o : BOp} (h1 : PE X e1 (tE X.K cs f1)) (h2 : PE X e2 (tE X.K cs f2)) :
    PE X (.BinOp e1 (opB o) e2 pos) (tE X.K cs fun env st => (f1 env st).bind fun r => (f2 env r.2).bind fun q => (binV o r.1 q.1 q.2).map fun v => (v, q.2)) := by
  refine ⟨fun pins s σ H Q I h => ?_⟩
  obtain ⟨F, B, as, env, st, v, st', r, ev, k⟩ := h
  obtain ⟨⟨x, st1⟩, ha, ev1⟩ := obnd ev
  obtain ⟨⟨y, st2⟩, hb, ev2⟩ := obnd ev1
  obtain ⟨z, hz, ev3⟩ := omap ev2
  clear ev ev1 ev2
  cases ev3
  dsimp only at ha hb hz k
  have go : ∀ {R : R2}, OpR X (binaryOp (opB o)) R → (∀ F' as' H' u w, Rel X.K cs F' B as' env st2 σ H' → Ext F as H F' as' H' → VOk X.K F' B as' x u → VOk X.K F' B as' y w → R u w H' Q) →
      wpAny (model X.prog X.w) X.A (eval (.BinOp e1 (opB o) e2 pos) X.env) (EP X pins σ Q) X.xe s := fun hR hk =>
    (pe_op hR h1 h2).run pins s σ H Q I (two r ha hb hk)
  unfold binV at hz
  split at hz
  · cases hz
    exact go op_add fun F' as' H' u w r' x' v1 v2 => ⟨_, _, int_of v1, int_of v2, k F' as' H' _ r' x' vint⟩
  · cases hz
    exact go op_sub fun F' as' H' u w r' x' v1 v2 => ⟨_, _, int_of v1, int_of v2, k F' as' H' _ r' x' vint⟩
  · split at hz
    · rename_i hc; cases hz
      exact go op_mulG fun F' as' H' u w r' x' v1 v2 => ⟨_, _, int_of v1, int_of v2, hc, k F' as' H' _ r' x' vint⟩
    · cases hz
  · split at hz
    · rename_i hc; cases hz
      exact go op_fdivG fun F' as' H' u w r' x' v1 v2 => ⟨_, _, int_of v1, int_of v2, hc, k F' as' H' _ r' x' vint⟩
    · cases hz
  · split at hz
    · cases hz
    · rename_i hc; cases hz
      exact go op_modN fun F' as' H' u w r' x' v1 v2 => ⟨_, _, int_of v1, int_of v2, hc, k F' as' H' _ r' x' vint⟩
  · split at hz
    · rename_i hc; cases hz
      unfold okPow at hc
      rw [Bool.and_eq_true, Bool.and_eq_true, decide_eq_true_eq, decide_eq_true_eq, decide_eq_true_eq] at hc
      exact go op_pow fun F' as' H' u w r' x' v1 v2 => ⟨_, _, int_of v1, int_of v2, ⟨hc.1.1, hc.1.2, hc.2⟩, k F' as' H' _ r' x' vint⟩
    · cases hz
  · split at hz
    · rename_i hc; cases hz
      unfold okPow at hc
      rw [Bool.and_eq_true, Bool.and_eq_true, decide_eq_true_eq, decide_eq_true_eq, decide_eq_true_eq] at hc
      exact go op_shl fun F' as' H' u w r' x' v1 v2 => ⟨_, _, int_of v1, int_of v2, ⟨hc.1.1, hc.1.2, hc.2⟩, k F' as' H' _ r' x' vint⟩
    · cases hz
  · split at hz
    · rename_i hc; cases hz
      exact go op_add_str fun F' as' H' u w r' x' v1 v2 => ⟨_, _, str_of v1, str_of v2, by rw [S_len, S_len, ← line_eq]; exact hc, k F' as' H' _ r' x' (by rw [S_app]; exact vstr)⟩
    · cases hz
  · split at hz
    · rename_i a b hc; cases hz
      refine go op_catA fun F' as' H' u w r' x' v1 v2 => ?_
      obtain ⟨p, us, rfl, hp, hd⟩ := Den.tup_iff.mp v1
      obtain ⟨q, ws, rfl, hq, he⟩ := Den.tup_iff.mp v2
      refine ⟨p, q, us, ws, rfl, rfl, .of (r'.fh _ _ hp), .of (r'.fh _ _ hq), by rw [hd.length, he.length, ← line_eq]; exact hc, fun e => ?_, fun _ e => ?_, fun _ _ t ht => ?_⟩
      · have : a = [] := List.eq_nil_of_length_eq_zero (by rw [← hd.length, e]; rfl)
        subst this
        exact k F' as' H' _ r' x' v2
      · have : b = [] := List.eq_nil_of_length_eq_zero (by rw [← he.length, e]; rfl)
        subst this
        exact k F' as' H' _ r' x' (by rw [List.append_nil]; exact v1)
      · obtain ⟨r2, x2, v3⟩ := r'.put (d := .tup (a ++ b)) (o := .tup (us ++ ws)) ht fun F2 hf h2 => Den.tup_iff.mpr ⟨t, _, rfl, h2, (Dens.mono hf _ _ hd).append (Dens.mono hf _ _ he)⟩
        exact k _ as' _ _ r2 (x'.trans x2) v3
    · cases hz
  · split at hz
    · rename_i a j hc; cases hz
      refine go op_repT fun F' as' H' u w r' x' v1 v2 => ?_
      obtain ⟨p, us, rfl, hp, hd⟩ := Den.tup_iff.mp v1
      refine ⟨p, j, us, rfl, int_of v2, .of (r'.fh _ _ hp), fun e => ?_, hc.2.2.1, hc.2.2.2, by rw [hd.length]; exact hc.2.1, fun t ht => ?_⟩
      · have e2 : a = [] := List.eq_nil_of_length_eq_zero (by rw [← hd.length, e]; rfl)
        rw [e2] at hc
        exact absurd hc.1 (by simp)
      · obtain ⟨r2, x2, v3⟩ := r'.put (d := .tup (List.replicate j.toNat a).flatten) (o := .tup (List.replicate j.toNat us).flatten) ht fun F2 hf h2 => Den.tup_iff.mpr ⟨t, _, rfl, h2, by
            have h3 := Dens.mono hf _ _ hd
            generalize j.toNat = n
            induction n with
            | zero => exact Dens.nil.mpr rfl
            | succ n ih => rw [List.replicate_succ, List.replicate_succ, List.flatten_cons, List.flatten_cons]; exact h3.append ih⟩
        exact k _ as' _ _ r2 (x'.trans x2) v3
    · cases hz
  · split at hz
    · rename_i xs ys h3 h4
      split at hz
      · rename_i hc; cases hz
        refine go op_cat fun F' as' H' u w r' x' v1 v2 => ?_
        obtain ⟨p, us, rfl, hp, hd⟩ := asX_ok r'.toRSt h3 v1
        obtain ⟨q, ws, rfl, hq, he⟩ := asX_ok r'.toRSt h4 v2
        refine ⟨p, q, us, ws, rfl, rfl, hp, hq, by rw [hd.length, he.length, ← line_eq]; exact hc, fun t ht => ?_⟩
        obtain ⟨r2, x2, v3⟩ := r'.put (d := .lst (xs ++ ys)) (o := .lst (us ++ ws)) ht fun F2 hf h2 => Den.lst_iff.mpr ⟨t, _, rfl, h2, (Dens.mono hf _ _ hd).append (Dens.mono hf _ _ he)⟩
        exact k _ as' _ _ r2 (x'.trans x2) v3
      · cases hz
    · cases hz
  · cases hz
theorem s_neg (h1 : PE X e1 (tE X.K cs f1)) : PE X (.UnaryOp .USub e1 pos) (tE X.K cs fun env st => (f1 env st).bind fun r => (intOf r.1).map fun i => (.dat (.int (-i)), r.2)) :=
  (pe_un un_neg h1).weak fun σ H Q ⟨F, B, as, env, st, v, st', r, ev, k⟩ => by
    obtain ⟨⟨x, st1⟩, ha, ev⟩ := obnd ev
    obtain ⟨i, hi, ev⟩ := omap ev
    cases ev
    refine ⟨F, B, as, env, st, x, st1, r, ha, fun F' as' H' u r' x' v1 => ?_⟩
    dsimp only at hi
    unfold intOf at hi
    split at hi
    · cases hi
      exact ⟨_, int_of v1, k F' as' H' _ r' x' vint⟩
    · cases hi
end
end NK
set_option Elab.async false
set_option linter.all false
set_option autoImplicit false
set_option maxRecDepth 100000
/-! NkF: equality, order, membership. -/
namespace NK
open PySem PySem.Spec PyProof.Rows L2
/-! ### data as the library's data -/
mutual
theorem toP_plain : ∀ d : D, nod d = true → (toP d).plain = true
  | .non, _ => by simp [toP, PyData.plain]
  | .bl _, _ => by simp [toP, PyData.plain]
  | .int _, _ => by simp [toP, PyData.plain]
  | .str _, _ => by simp [toP, PyData.plain]
  | .tup ds, h => by simp only [toP, PyData.plain]; exact toPs_plain ds (by simpa [nod] using h)
  | .lst ds, h => by simp only [toP, PyData.plain]; exact toPs_plain ds (by simpa [nod] using h)
  | .dK _ _, h => by simp [nod] at h
  | .dT _ _, h => by simp [nod] at h
  | .scr ns, _ => by
    simp only [toP, PyData.plain]
    induction ns with
    | nil => rfl
    | cons n ns ih => simp [PyData.plainAll, PyData.plain, ih (by simp [nod])]
theorem toPs_plain : ∀ ds : List D, nods ds = true → PyData.plainAll (toPs ds) = true
  | [], _ => by simp [toPs, PyData.plainAll]
  | d :: ds, h => by
    have h' : nod d = true ∧ nods ds = true := by simpa [nods] using h
    simp [toPs, PyData.plainAll, toP_plain d h'.1, toPs_plain ds h'.2]
end
mutual
theorem toP_dep : ∀ d : D, (toP d).depth ≤ dep d
  | .non => by simp [toP, PyData.depth]
  | .bl _ => by simp [toP, PyData.depth]
  | .int _ => by simp [toP, PyData.depth]
  | .str _ => by simp [toP, PyData.depth]
  | .tup ds => by simp only [toP, PyData.depth, dep]; have := toPs_dep ds; omega
  | .lst ds => by simp only [toP, PyData.depth, dep]; have := toPs_dep ds; omega
  | .dK _ _ => by simp [toP, PyData.depth]
  | .dT _ _ => by simp [toP, PyData.depth]
  | .scr ns => by
    simp only [toP, PyData.depth, dep]
    have : ∀ ns : List Int, PyData.depthAll (ns.map .int) = 0 := fun ns => by
      induction ns with
      | nil => rfl
      | cons n ns ih => simp [PyData.depthAll, PyData.depth, ih]
    rw [this]; omega
theorem toPs_dep : ∀ ds : List D, PyData.depthAll (toPs ds) ≤ deps ds
  | [] => by simp [toPs, PyData.depthAll, deps]
  | d :: ds => by simp only [toPs, PyData.depthAll, deps]; have := toP_dep d; have := toPs_dep ds; omega
end
theorem eqI_ok (i : Int) (d : D) (h : nod d = true) : PyData.eqv (.int i) (toP d) = eqI i d := by
  cases d <;> simp [toP, PyData.eqv, eqI, nod] at h ⊢
theorem eqI_ok' (i : Int) (d : D) (h : nod d = true) : PyData.eqv (toP d) (.int i) = eqI i d := by
  cases d <;> simp [toP, PyData.eqv, eqI, nod] at h ⊢ <;> exact Bool.eq_iff_iff.mpr ⟨by simp; exact fun h => h.symm, by simp; exact fun h => h.symm⟩
theorem eqSs_ok : ∀ (ns : List Int) (ds : List D), nods ds = true → PyData.eqvAll (ns.map .int) (toPs ds) = eqSs ns ds
  | [], [], _ => by simp [toPs, PyData.eqvAll, eqSs]
  | [], _ :: _, _ => by simp [toPs, PyData.eqvAll, eqSs]
  | _ :: _, [], _ => by simp [toPs, PyData.eqvAll, eqSs]
  | n :: ns, d :: ds, h => by
    have h' : nod d = true ∧ nods ds = true := by simpa [nods] using h
    simp [toPs, PyData.eqvAll, eqSs, eqI_ok n d h'.1, eqSs_ok ns ds h'.2]
theorem eqSs_ok' : ∀ (ns : List Int) (ds : List D), nods ds = true → PyData.eqvAll (toPs ds) (ns.map .int) = eqSs ns ds
  | [], [], _ => by simp [toPs, PyData.eqvAll, eqSs]
  | [], _ :: _, _ => by simp [toPs, PyData.eqvAll, eqSs]
  | _ :: _, [], _ => by simp [toPs, PyData.eqvAll, eqSs]
  | n :: ns, d :: ds, h => by
    have h' : nod d = true ∧ nods ds = true := by simpa [nods] using h
    simp [toPs, PyData.eqvAll, eqSs, eqI_ok' n d h'.1, eqSs_ok' ns ds h'.2]
theorem eqNs_ok : ∀ ns ms : List Int, PyData.eqvAll (ns.map .int) (ms.map .int) = (ns == ms)
  | [], [] => rfl
  | [], _ :: _ => rfl
  | _ :: _, [] => rfl
  | n :: ns, m :: ms => by
    simp only [List.map_cons, PyData.eqvAll, PyData.eqv, eqNs_ok ns ms]
    rfl
mutual
theorem eqD_ok : ∀ a b : D, nod a = true → nod b = true → PyData.eqv (toP a) (toP b) = eqD a b
  | .non, b, _, hb => by cases b <;> simp [toP, PyData.eqv, eqD, nod] at hb ⊢
  | .bl x, b, _, hb => by cases b <;> simp [toP, PyData.eqv, eqD, nod] at hb ⊢
  | .int i, b, _, hb => by cases b <;> simp [toP, PyData.eqv, eqD, nod] at hb ⊢
  | .str x, b, _, hb => by
    cases b <;> simp [toP, PyData.eqv, eqD, nod] at hb ⊢
    rename_i y
    exact Bool.eq_iff_iff.mpr ⟨by simp [S_iff], by simp [S_iff]⟩
  | .tup xs, b, ha, hb => by
    cases b <;> simp [toP, PyData.eqv, eqD, nod] at ha hb ⊢
    exact eqDs_ok xs _ ha hb
  | .lst xs, b, ha, hb => by
    cases b <;> simp [toP, PyData.eqv, eqD, nod] at ha hb ⊢
    · exact eqDs_ok xs _ ha hb
    · exact eqSs_ok' _ xs ha
  | .scr ns, b, _, hb => by
    cases b <;> simp [toP, PyData.eqv, eqD, nod] at hb ⊢
    · exact eqSs_ok ns _ hb
    · exact eqNs_ok ns _
  | .dK _ _, _, ha, _ => by simp [nod] at ha
  | .dT _ _, _, ha, _ => by simp [nod] at ha
theorem eqDs_ok : ∀ as bs : List D, nods as = true → nods bs = true → PyData.eqvAll (toPs as) (toPs bs) = eqDs as bs
  | [], [], _, _ => by simp [toPs, PyData.eqvAll, eqDs]
  | [], _ :: _, _, _ => by simp [toPs, PyData.eqvAll, eqDs]
  | _ :: _, [], _, _ => by simp [toPs, PyData.eqvAll, eqDs]
  | a :: as, b :: bs, ha, hb => by
    have ha' : nod a = true ∧ nods as = true := by simpa [nods] using ha
    have hb' : nod b = true ∧ nods bs = true := by simpa [nods] using hb
    simp [toPs, PyData.eqvAll, eqDs, eqD_ok a b ha'.1 hb'.1, eqDs_ok as bs ha'.2 hb'.2]
end
section
variable {K : PySem.W.Frag} {F H : Hp}
mutual
theorem den_dp (hf : ∀ a o, F a = some o → H a = some o) : ∀ (d : D) (u : V), nod d = true → Den K F d u → Dp K H u (toP d)
  | .non, u, _, q => by rw [Den.non_iff.mp q]; simp only [toP]; exact .non
  | .bl b, u, _, q => by rw [Den.bl_iff.mp q]; simp only [toP]; exact .bl b
  | .int i, u, _, q => by rw [Den.int_iff.mp q]; simp only [toP]; exact .int i
  | .str w, u, _, q => by rw [Den.str_iff.mp q]; simp only [toP]; exact .str _
  | .tup ds, u, h, q => by
    obtain ⟨p, us, rfl, a, b⟩ := Den.tup_iff.mp q
    simp only [toP]
    exact .tup (.of (hf _ _ a)) (dens_dp hf ds us (by simpa [nod] using h) b)
  | .lst ds, u, h, q => by
    obtain ⟨p, us, rfl, a, b⟩ := Den.lst_iff.mp q
    simp only [toP]
    exact .lst (.of (hf _ _ a)) (dens_dp hf ds us (by simpa [nod] using h) b)
  | .dK _ _, _, h, _ => by simp [nod] at h
  | .dT _ _, _, h, _ => by simp [nod] at h
  | .scr ns, u, _, q => by
    obtain ⟨p, rfl, a⟩ := Den.scr_iff.mp q
    simp only [toP]
    refine .lst (sqL_mono hf a) ?_
    clear q a
    induction ns with
    | nil => exact .nil
    | cons n ns ih => exact .cons (.int n) (ih (by simp [nod]))
theorem dens_dp (hf : ∀ a o, F a = some o → H a = some o) : ∀ (ds : List D) (us : List V), nods ds = true → Dens K F ds us → DpAll K H us (toPs ds)
  | [], us, _, q => by rw [Dens.nil.mp q]; simp only [toPs]; exact .nil
  | d :: ds, us, h, q => by
    have h' : nod d = true ∧ nods ds = true := by simpa [nods] using h
    obtain ⟨u, us', rfl, a, b⟩ := Dens.cons.mp q
    simp only [toPs]
    exact .cons (den_dp hf d u h'.1 a) (dens_dp hf ds us' h'.2 b)
end
end
def scalD : D → Prop
  | .lst _ => False
  | .dK _ _ => False
  | .dT _ _ => False
  | _ => True
/-! ### the rules -/
section
variable {X : Cx} {cs : Nat → Option Addr} {e e1 e2 e3 : Expr} {f f1 f2 f3 : Env → Sto → Option (Val × Sto)} {pos : Pos}
def rEqP (K : PySem.W.Frag) (neg : Bool) : R2 := fun x y H Q => ∃ d e, Dp K H x d ∧ Dp K H y e ∧ d.plain = true ∧ e.plain = true ∧ min d.depth e.depth ≤ 190 ∧ Q (.bl (if neg then !PyData.eqv d e else PyData.eqv d e)) H
theorem op_eqP (hu : X.A.units + 200 < cLine) : OpR X (compareOp .Eq) (rEqP X.K false) := by
  intro pins s σ H x y v u Q I rx ry h
  obtain ⟨d, e, hd, he, sd, se, dd, q⟩ := h
  obtain ⟨as, r1⟩ := Dp.reads I d x v hd rx
  obtain ⟨bs, r2⟩ := Dp.reads I e y u he ry
  exact SeqAt.eq_plain r1 r2 sd se (by omega) ⟨.bl _, H, I, rfl, q⟩
theorem op_neP (hu : X.A.units + 200 < cLine) : OpR X (compareOp .NotEq) (rEqP X.K true) := by
  intro pins s σ H x y v u Q I rx ry h
  obtain ⟨d, e, hd, he, sd, se, dd, q⟩ := h
  obtain ⟨as, r1⟩ := Dp.reads I d x v hd rx
  obtain ⟨bs, r2⟩ := Dp.reads I e y u he ry
  exact SeqAt.ne_plain r1 r2 sd se (by omega) ⟨.bl _, H, I, rfl, q⟩
def rInP (K : PySem.W.Frag) (neg : Bool) : R2 := fun x y H Q => ∃ d ds, Dp K H x d ∧ (Dp K H y (.list ds) ∨ Dp K H y (.tuple ds)) ∧ d.plain = true ∧ PyData.plainAll ds = true ∧ d.depth ≤ 150 ∧ Q (.bl (if neg then !(ds.any fun z => PyData.eqv z d) else ds.any fun z => PyData.eqv z d)) H
theorem op_inP (hu : X.A.units + 200 < cLine) : OpR X (compareOp .In) (rInP X.K false) := by
  intro pins s σ H x y v u Q I rx ry h
  obtain ⟨d, ds, hd, he, sd, se, dd, q⟩ := h
  obtain ⟨as, r1⟩ := Dp.reads I d x v hd rx
  rcases he with he | he
  · obtain ⟨bs, r2⟩ := Dp.reads I _ y u he ry
    exact SeqAt.in_list_data r2 r1 se sd (by have := Nat.min_le_right (PyData.depthAll ds) d.depth; omega) ⟨.bl _, H, I, rfl, q⟩
  · obtain ⟨bs, r2⟩ := Dp.reads I _ y u he ry
    exact SeqAt.in_tuple_data r2 r1 se sd (by have := Nat.min_le_right (PyData.depthAll ds) d.depth; omega) ⟨.bl _, H, I, rfl, q⟩
theorem op_notInP (hu : X.A.units + 200 < cLine) : OpR X (compareOp .NotIn) (rInP X.K true) := by
  intro pins s σ H x y v u Q I rx ry h
  obtain ⟨d, ds, hd, he, sd, se, dd, q⟩ := h
  obtain ⟨as, r1⟩ := Dp.reads I d x v hd rx
  rcases he with he | he
  · obtain ⟨bs, r2⟩ := Dp.reads I _ y u he ry
    exact SeqAt.notIn_list_data r2 r1 se sd (by have := Nat.min_le_right (PyData.depthAll ds) d.depth; omega) ⟨.bl _, H, I, rfl, q⟩
  · obtain ⟨bs, r2⟩ := Dp.reads I _ y u he ry
    exact SeqAt.notIn_tuple_data r2 r1 se sd (by have := Nat.min_le_right (PyData.depthAll ds) d.depth; omega) ⟨.bl _, H, I, rfl, q⟩
def rInDict (neg : Bool) : R2 := fun x y H Q => ∃ a o, y = .ref a ∧ DGet H a x o ∧ Q (.bl (if neg then !o.isSome else o.isSome)) H
theorem op_inDict (hu : X.A.units + 1 < cLine) : OpR X (compareOp .In) (rInDict false) := by
  intro pins s σ H x y v u Q I rx ry h
  obtain ⟨a, o, rfl, g, q⟩ := h
  cases ry
  exact d_in hu I g rx fun s' I' => ⟨.bl _, H, I', rfl, q⟩
theorem op_notInDict (hu : X.A.units + 1 < cLine) : OpR X (compareOp .NotIn) (rInDict true) := by
  intro pins s σ H x y v u Q I rx ry h
  obtain ⟨a, o, rfl, g, q⟩ := h
  cases ry
  exact d_notIn hu I g rx fun s' I' => ⟨.bl _, H, I', rfl, q⟩
/-! ### looking up -/
theorem dlook_zip {κ κ' : Type} [DecidableEq κ] [DecidableEq κ'] {g : κ → κ'} (hg : ∀ a b, g a = g b → a = b) {K : PySem.W.Frag} {F : Hp} : ∀ {ks : List κ} {ds : List D} {us : List V} (k : κ), ks.length = ds.length → Dens K F ds us →
    (∃ d u, dlook ks ds k = some d ∧ valV ((ks.map g).zip us) (g k) = some u ∧ Den K F d u) ∨ (dlook ks ds k = none ∧ valV ((ks.map g).zip us) (g k) = none)
  | [], [], us, k, _, _ => by simp [dlook, valV]
  | [], _ :: _, _, _, h, _ => by simp at h
  | _ :: _, [], _, _, h, _ => by simp at h
  | j :: ks, d :: ds, us, k, h, q => by
    obtain ⟨u, us', rfl, a, b⟩ := Dens.cons.mp q
    by_cases e : j = k
    · subst e
      refine .inl ⟨d, u, by simp [dlook], ?_, a⟩
      show valV ((g j, u) :: (ks.map g).zip us') (g j) = some u
      exact valV_pos rfl
    · have e2 : ¬ g j = g k := fun z => e (hg _ _ z)
      have ih := dlook_zip hg (ks := ks) (ds := ds) (us := us') k (by simpa using h) b
      have h1 : dlook (j :: ks) (d :: ds) k = dlook ks ds k := by simp [dlook, e]
      have h2 : valV ((((j :: ks).map g)).zip (u :: us')) (g k) = valV ((ks.map g).zip us') (g k) := by
        show valV ((g j, u) :: (ks.map g).zip us') (g k) = _
        exact valV_neg e2
      rw [h1, h2]
      exact ih
theorem kk_map_inj {a b : List K1} (h : a.map kk = b.map kk) : a = b := by
  induction a generalizing b with
  | nil => cases b <;> simp at h ⊢
  | cons x a ih =>
    cases b with
    | nil => simp at h
    | cons y b =>
      simp only [List.map_cons, List.cons.injEq] at h ⊢
      exact ⟨kk_inj h.1, ih h.2⟩
theorem toK_ok {K : PySem.W.Frag} {F : Hp} {d : D} {k : K1} {u : V} (h : toK d = some k) (q : Den K F d u) : u = kV (kk k) := by
  cases d <;> simp [toK] at h
  · subst h; exact Den.int_iff.mp q
  · subst h; exact Den.str_iff.mp q
theorem toKs_ok {K : PySem.W.Frag} {F : Hp} : ∀ {ds : List D} {k : List K1} {us : List V}, toKs ds = some k → Dens K F ds us → us = (k.map kk).map kV
  | [], k, us, h, q => by simp [toKs] at h; subst h; rw [Dens.nil.mp q]; rfl
  | d :: ds, k, us, h, q => by
    obtain ⟨x, hx, h⟩ := obnd h
    obtain ⟨y, hy, h⟩ := omap h
    subst h
    obtain ⟨u, us', rfl, a, b⟩ := Dens.cons.mp q
    rw [toK_ok hx a, toKs_ok hy b]; rfl
theorem toTK_ok {K : PySem.W.Frag} {F : Hp} {d : D} {k : List K1} {u : V} (h : toTK d = some k) (q : Den K F d u) : ∃ b, u = .ref b ∧ F b = some (.tup ((k.map kk).map kV)) := by
  cases d <;> simp [toTK] at h
  obtain ⟨p, us, rfl, a, b⟩ := Den.tup_iff.mp q
  exact ⟨p, rfl, by rw [a, toKs_ok h b]⟩
section
variable {F B H : Hp} {as : List Addr} {env : Env} {st : Sto} {σ : L2.St}
/-- the dict of a value, asked for a key -/
theorem get_dK (r : RSt X.K cs F B as st H) {v : Val} {u : V} {ks : List K1} {ds : List D} (h : snap st v = some (.dK ks ds)) (q : VOk X.K F B as v u) {i : D} {k : K1} {w : V} (hk : toK i = some k) (qi : Den X.K F i w) :
    ∃ a o, u = .ref a ∧ DGet H a w o ∧ ((∃ d x, dlook ks ds k = some d ∧ o = some x ∧ Den X.K F d x) ∨ (dlook ks ds k = none ∧ o = none)) := by
  obtain ⟨p, us, rfl, e, l, b⟩ := top_dK r h q
  refine ⟨p, _, rfl, .inl ⟨_, kk k, e, toK_ok hk qi, rfl⟩, ?_⟩
  rcases dlook_zip (g := kk) (fun _ _ => kk_inj) k l b with ⟨d, x, h1, h2, h3⟩ | ⟨h1, h2⟩
  · exact .inl ⟨d, x, h1, h2, h3⟩
  · exact .inr ⟨h1, h2⟩
theorem get_dT (r : RSt X.K cs F B as st H) {v : Val} {u : V} {ks : List (List K1)} {ds : List D} (h : snap st v = some (.dT ks ds)) (q : VOk X.K F B as v u) {i : D} {k : List K1} {w : V} (hk : toTK i = some k) (qi : Den X.K F i w) :
    ∃ a o, u = .ref a ∧ DGet H a w o ∧ ((∃ d x, dlook ks ds k = some d ∧ o = some x ∧ Den X.K F d x) ∨ (dlook ks ds k = none ∧ o = none)) := by
  obtain ⟨p, us, rfl, e, l, b⟩ := top_dT r h q
  obtain ⟨c, rfl, hc⟩ := toTK_ok hk qi
  refine ⟨p, _, rfl, .inr ⟨_, k.map kk, c, e, rfl, r.fh _ _ hc, rfl⟩, ?_⟩
  rcases dlook_zip (g := fun l : List K1 => l.map kk) (fun _ _ => kk_map_inj) k l b with ⟨d, x, h1, h2, h3⟩ | ⟨h1, h2⟩
  · exact .inl ⟨d, x, h1, h2, h3⟩
  · exact .inr ⟨h1, h2⟩
theorem snap_dp (r : RSt X.K cs F B as st H) {v : Val} {u : V} {d : D} (h : snap st v = some d) (n : nod d = true) (q : VOk X.K F B as v u) : Dp X.K H u (toP d) := by
  rcases snap_top r h q with ⟨d', rfl, rfl, z⟩ | z
  · exact den_dp r.fh _ u n z
  · cases d <;> first | exact z.elim | skip
    · obtain ⟨p, us, rfl, a, b⟩ := z
      simp only [toP]
      exact .lst (.of a) (dens_dp r.fh _ us (by simpa [nod] using n) b)
    · simp [nod] at n
    · simp [nod] at n
/-- a scalar in any value: it is data -/
theorem snap_dat (r : RSt X.K cs F B as st H) {v : Val} {u : V} {d : D} (h : snap st v = some d) (q : VOk X.K F B as v u) (n : scalD d) : Den X.K F d u := by
  rcases snap_top r h q with ⟨d', rfl, rfl, z⟩ | z
  · exact z
  · cases d <;> first | exact z.elim | exact n.elim
end
theorem toK_scal {d : D} {k : K1} (h : toK d = some k) : scalD d := by
  cases d <;> simp [toK] at h <;> trivial
theorem toTK_scal {d : D} {k : List K1} (h : toTK d = some k) : scalD d := by
  cases d <;> simp [toTK] at h <;> trivial
theorem any_eq {ds : List D} {a : D} (h : nods ds = true) (ha : nod a = true) : (toPs ds).any (fun z => PyData.eqv z (toP a)) = ds.any fun d => eqD d a := by
  induction ds with
  | nil => rfl
  | cons d ds ih =>
    have h' : nod d = true ∧ nods ds = true := by simpa [nods] using h
    simp only [toPs, List.any_cons, eqD_ok d a h'.1 ha, ih h'.2]
/-! ### dicts compared -/
theorem kv_find {κ : Type} [DecidableEq κ] {kvs : List (κ × V)} {vs : List (κ × Value)} (h : KV kvs vs) (k : κ) : (∀ u, valV kvs k = some u → ∃ y, PySem.valueAt vs k = some y ∧ RelV u y) ∧ (valV kvs k = none → PySem.valueAt vs k = none) := by
  induction h with
  | nil => exact ⟨fun u e => by simp [valV] at e, fun _ => rfl⟩
  | @cons p q kvs vs r t ih =>
    obtain ⟨p1, p2⟩ := p
    obtain ⟨q1, q2⟩ := q
    obtain ⟨r1, r2⟩ := r
    dsimp only at r1 r2
    subst r1
    by_cases e : p1 = k
    · subst e
      refine ⟨fun u eu => ⟨q2, by simp [PySem.valueAt], ?_⟩, fun en => ?_⟩
      · rw [valV_pos rfl] at eu; cases eu; exact r2
      · rw [valV_pos rfl] at en; cases en
    · have e1 : PySem.valueAt ((p1, q2) :: vs) k = PySem.valueAt vs k := by simp [PySem.valueAt, e]
      rw [e1, valV_neg e]
      exact ih
theorem dlook_nod {k : K1} {e : D} : ∀ {js : List K1} {es : List D}, dlook js es k = some e → nods es = true → nod e = true ∧ dep e ≤ deps es
  | [], [], h, _ => by simp [dlook] at h
  | [], _ :: _, h, _ => by simp [dlook] at h
  | _ :: _, [], h, _ => by simp [dlook] at h
  | j :: js, f :: es, h, ne => by
    have ne' : nod f = true ∧ nods es = true := by simpa [nods] using ne
    simp only [dlook] at h
    simp only [deps]
    split at h
    · cases h; exact ⟨ne'.1, by omega⟩
    · have := dlook_nod h ne'.2
      exact ⟨this.1, by omega⟩
theorem hitsK {pins : List (Addr × PySem.Obj)} {s : Shared} {σ : L2.St} {H : Hp} (I : Inv X pins σ H s) {A : Around} {js : List K1} {es : List D} {ws : List V} {vb : List (Key × Value)} (hjl : js.length = es.length) (hb : Dens X.K H es ws) (kb : KV ((js.map kk).zip ws) vb) (ne : nods es = true) (hu : A.units + 160 < cLine) :
    ∀ {ks : List K1} {ds : List D} {us : List V} {va : List (Key × Value)}, ks.length = ds.length → Dens X.K H ds us → KV ((ks.map kk).zip us) va → nods ds = true → min (deps ds) (deps es) ≤ 150 → PySem.W.KeqHits A s vb va (eqKs ks ds js es)
  | [], [], us, va, _, q, k, _, _ => by
    rw [Dens.nil.mp q] at k
    cases k
    simp only [eqKs]
    exact .nil
  | [], _ :: _, _, _, h, _, _, _, _ => by simp at h
  | _ :: _, [], _, _, h, _, _, _, _ => by simp at h
  | k :: ks, d :: ds, us, va, hl, q, kv, nd, hd => by
    obtain ⟨u, us', rfl, qa, qb⟩ := Dens.cons.mp q
    have nd' : nod d = true ∧ nods ds = true := by simpa [nods] using nd
    have hde : dep d ≤ deps (d :: ds) ∧ deps ds ≤ deps (d :: ds) := by simp only [deps]; omega
    cases kv with
    | @cons _ y _ ys r t =>
      obtain ⟨y1, y2⟩ := y
      obtain ⟨r1, r2⟩ := r
      dsimp only at r1 r2
      subst r1
      have ih := hitsK I hjl hb kb ne hu (ks := ks) (ds := ds) (us := us') (va := ys) (by simpa using hl) qb t nd'.2 (by omega)
      simp only [eqKs]
      rcases dlook_zip (g := kk) (fun _ _ => kk_inj) k hjl hb with ⟨e, x, h1, h2, h3⟩ | ⟨h1, h2⟩
      · rw [h1]
        obtain ⟨z, hz, rz⟩ := (kv_find kb (kk k)).1 x h2
        have hm := dlook_nod h1 ne
        obtain ⟨as1, R1⟩ := Dp.reads I _ u y2 (den_dp (fun _ _ h => h) d u nd'.1 qa) r2
        obtain ⟨as2, R2⟩ := Dp.reads I _ x z (den_dp (fun _ _ h => h) e x hm.1 h3) rz
        have hq := SeqAt.eqAt_plain (toP d) (toP e) A s y2 z as1 as2 R1 R2 (toP_plain d nd'.1) (toP_plain e hm.1) (by have := toP_dep d; have := toP_dep e; omega)
        rw [eqD_ok d e nd'.1 hm.1] at hq
        exact .hit hz hq ih
      · rw [h1]
        dsimp only
        rw [Bool.false_and]
        exact .miss ((kv_find kb (kk k)).2 h2)
def rEqK (K : PySem.W.Frag) (neg : Bool) (a b : D) : R2 := fun x y H Q => eqOkK a b = true ∧ Den K H a x ∧ Den K H b y ∧ Q (.bl (if neg then !eqD a b else eqD a b)) H
theorem op_eqK (hu : X.A.units + 200 < cLine) (a b : D) (neg : Bool) : OpR X (compareOp (if neg then .NotEq else .Eq)) (rEqK X.K neg a b) := by
  intro pins s σ H x y v u Q I rx ry h
  obtain ⟨hc, ha, hb, q⟩ := h
  unfold eqOkK at hc
  split at hc
  case h_2 => cases hc
  rename_i ks ds js es
  simp only [Bool.and_eq_true, decide_eq_true_eq] at hc
  obtain ⟨⟨⟨⟨n1, n2⟩, l1⟩, l2⟩, hd⟩ := hc
  obtain ⟨p, us, rfl, g1, _, q1⟩ := Den.dK_iff.mp ha
  obtain ⟨p', ws, rfl, g2, _, q2⟩ := Den.dK_iff.mp hb
  obtain rfl : v = Value.ref p := rx
  obtain rfl : u = Value.ref p' := ry
  obtain ⟨_, ya, va, ra, da⟩ := (show ObjOk X.prog X.w H s.heap p (.dK _) from g1.ok I.hok)
  obtain ⟨_, yb, vb, rb, db⟩ := (show ObjOk X.prog X.w H s.heap p' (.dK _) from g2.ok I.hok)
  have ea : va.length = ks.length := by rw [← ra.length, List.length_zip, List.length_map, q1.length, ← l1, Nat.min_self]
  have eb : vb.length = js.length := by rw [← rb.length, List.length_zip, List.length_map, q2.length, ← l2, Nat.min_self]
  have hits := hitsK I (A := X.A.in1) l2 q2 rb n2 (by show X.A.units + 1 + 160 < cLine; omega) l1 q1 ra n1 hd
  cases neg
  · refine PySem.W.keq_eq (knd := mixKind X.prog X.w) ya yb da db (by omega) (fun _ => hits) ⟨.bl _, H, I, rfl, ?_⟩
    rw [ea, eb]
    exact q
  · refine PySem.W.keq_ne (knd := mixKind X.prog X.w) ya yb da db (by omega) (fun _ => hits) ⟨.bl _, H, I, rfl, ?_⟩
    rw [ea, eb]
    exact q
end
theorem eqOkT_eq {a b : D} (h : eqOkT a b = true) : eqD a b = true := by
  simp only [eqOkT, Bool.and_eq_true] at h
  exact h.1.2
theorem eqOkL_eq {a b : D} (h : eqOkL a b = true) : (!eqD a b) = false := by
  unfold eqOkL at h
  split at h
  · rw [eqOkT_eq h]; rfl
  · cases h
theorem dlook_okT {k : K1} {e : D} : ∀ {js : List K1} {es : List D}, dlook js es k = some e → okTs es = true → okT e = true
  | [], [], h, _ => by simp [dlook] at h
  | [], _ :: _, h, _ => by simp [dlook] at h
  | _ :: _, [], h, _ => by simp [dlook] at h
  | j :: js, f :: es, h, ne => by
    simp only [okTs, Bool.and_eq_true] at ne
    simp only [dlook] at h
    split at h
    · cases h; exact ne.1
    · exact dlook_okT h ne.2
section
variable {X : Cx}
section
variable {pins : List (Addr × PySem.Obj)} {s : Shared} {σ : L2.St} {H : Hp}
theorem leafT (I : Inv X pins σ H s) {a b : D} {x y : V} {v u : Value} {n : Nat} (hn : 4 ≤ n) (ha : nod a = true) (hb : nod b = true) (da : dep a ≤ 2) (e : eqD a b = true) (qa : Den X.K H a x) (qb : Den X.K H b y) (rx : RelV x v) (ry : RelV y u) : PySem.W.EqTree X.prog X.w s n v u true := by
  obtain ⟨as1, R1⟩ := Dp.reads I _ x v (den_dp (fun _ _ h => h) a x ha qa) rx
  obtain ⟨as2, R2⟩ := Dp.reads I _ y u (den_dp (fun _ _ h => h) b y hb qb) ry
  refine .leaf fun A hu => ?_
  have hq := SeqAt.eqAt_plain (toP a) (toP b) A s v u as1 as2 R1 R2 (toP_plain a ha) (toP_plain b hb) (by have := toP_dep a; omega)
  rw [eqD_ok a b ha hb, e] at hq
  exact hq
theorem allT {n : Nat} : ((List.range n).all fun _ => true) = true := List.all_eq_true.mpr fun _ _ => rfl
/-- xs != ys where all is alike -/
theorem neLoop {P : Program} {w : World} {p q : Addr} {us vs : Array Value} {n m : Nat} {du dv : Option Addr} {ku kv : Array (Option Value)} (hs : us.size = vs.size) (k : Nat) : ∀ i : Nat, us.size - i = k → MeetsIn P w (Builtin.«list.__eq__.loop» ⟨[.ref p, .ref q, rawInt i, rawInt 3], []⟩)
    (fun A R s => s.heap.get? p = some ⟨.type "list", du, .seq us n, ku⟩ ∧ s.heap.get? q = some ⟨.type "list", dv, .seq vs m, kv⟩ ∧ (∀ j (h1 : j < us.size) (h2 : j < vs.size), SeqAt.EqIn P w A.in1 s us[j] vs[j] true) ∧ R (.ok (.ret (.bool false))) s) := by
  induction k with
  | zero =>
    rintro i hk A R ⟨hp, g, d, tk, os⟩ ⟨hl, hb, _, hr⟩
    wp_walk using AutoSeq1.wpAny_loadPart' hl, AutoSeq1.wpAny_loadPart' hb
    rw [Array.getElem?_eq_none (by simp; omega : us.size ≤ ((i : Nat) : Int).toNat), Array.getElem?_eq_none (by simp; omega : vs.size ≤ ((i : Nat) : Int).toNat)]
    wp_walk using AutoSeq1.wpAny_loadPart' hl, AutoSeq1.wpAny_loadPart' hb
    rw [hs]
    show R (.ok (.ret (.bool (vs.size != vs.size)))) _
    simpa using hr
  | succ k ih =>
    rintro i hk A R ⟨hp, g, d, tk, os⟩ ⟨hl, hb, he, hr⟩
    wp_walk using AutoSeq1.wpAny_loadPart' hl, AutoSeq1.wpAny_loadPart' hb
    have c1 : i < us.size := by omega
    have c2 : i < vs.size := by omega
    rw [show us[((i : Nat) : Int).toNat]? = some us[i] by simp [c1], show vs[((i : Nat) : Int).toNat]? = some vs[i] by simp [c2]]
    refine wpAny_bind (he i c1 c2 _ _ ?_)
    wp_walk
    rw [show ((i : Int) + 1) = ((i + 1 : Nat) : Int) by push_cast; rfl]
    exact ⟨plainId_quiet MeetsSeq3.plain_eq_loop _, codeAny_builtin MeetsSeq3.entry_eq_loop (by
      rw [Around.under_plainId MeetsSeq3.plain_eq_loop _]
      exact ih (i + 1) (by omega) A R _ ⟨hl, hb, he, hr⟩)⟩
theorem neLists {P : Program} {w : World} {A : Around} {s : Shared} {p q : Addr} {us vs : Array Value} {E Q : Value → Shared → Prop} (hp : s.heap.IsList p us) (hq : s.heap.IsList q vs) (hs : us.size = vs.size) (hu : A.units < cLine)
    (he : ∀ j (h1 : j < us.size) (h2 : j < vs.size), SeqAt.EqIn P w A.in1 s us[j] vs[j] true) (h : Q (.bool false) s) : wpAny (model P w) A (richCompare .NotEq (.ref p) (.ref q)) Q E s := by
  obtain ⟨⟨c1, d1, a1, k1⟩, o1, rfl, n, rfl⟩ := hp
  obtain ⟨⟨c2, d2, a2, k2⟩, o2, rfl, m, rfl⟩ := hq
  have body : MeetsIn P w (Builtin.«list.__ne__» ⟨[.ref p, .ref q], []⟩) (fun A R s => s.heap.get? p = some ⟨.type "list", d1, .seq us n, k1⟩ ∧ s.heap.get? q = some ⟨.type "list", d2, .seq vs m, k2⟩ ∧ (∀ j (h1 : j < us.size) (h2 : j < vs.size), SeqAt.EqIn P w A.in1 s us[j] vs[j] true) ∧ R (.ok (.ret (.bool false))) s) := by
    rintro A R ⟨hp, g, d, tk, os⟩ ⟨hl, hb, he, hr⟩
    have sub := AutoSeq1.sub_list_list
    have ne : ¬ (us.size != vs.size) = true := by simp [hs]
    wp_walk using AutoSeq1.wpAny_loadPart' hl, AutoSeq1.wpAny_loadPart' hb
    exact ⟨plainId_quiet MeetsSeq3.plain_eq_loop _, codeAny_builtin MeetsSeq3.entry_eq_loop (by
      rw [Around.under_plainId MeetsSeq3.plain_eq_loop _]
      exact neLoop hs _ 0 rfl A R _ ⟨hl, hb, he, hr⟩)⟩
  exact wpAny_richCompare_same_room (T := "list") (op := .NotEq) ⟨_, o1, rfl⟩ ⟨_, o2, rfl⟩ F.slot_list_ne (call_meetsIn F.slot_list_ne ⟨_, o1, rfl⟩ F.entry_list_ne (F.args_list_ne_2 _ _) body ⟨o1, o2, he, show Value.bool false ≠ Value.notImplemented ∧ Q (.bool false) s from ⟨(fun x => nomatch x), h⟩⟩) hu
mutual
theorem treeT (I : Inv X pins σ H s) : ∀ (a b : D) {x y : V} {v u : Value} {n : Nat}, depT a + 4 ≤ n → okT a = true → okT b = true → eqD a b = true → Den X.K H a x → Den X.K H b y → RelV x v → RelV y u → PySem.W.EqTree X.prog X.w s n v u true
  | .non, b, x, y, v, u, n, hn, ha, hb, e, qa, qb, rx, ry => leafT I (by omega) rfl (by cases b <;> simp_all [eqD, nod]) (by simp [dep]) e qa qb rx ry
  | .bl _, b, x, y, v, u, n, hn, ha, hb, e, qa, qb, rx, ry => leafT I (by omega) rfl (by cases b <;> simp_all [eqD, nod]) (by simp [dep]) e qa qb rx ry
  | .int _, b, x, y, v, u, n, hn, ha, hb, e, qa, qb, rx, ry => leafT I (by omega) rfl (by cases b <;> simp_all [eqD, nod]) (by simp [dep]) e qa qb rx ry
  | .str _, b, x, y, v, u, n, hn, ha, hb, e, qa, qb, rx, ry => leafT I (by omega) rfl (by cases b <;> simp_all [eqD, nod]) (by simp [dep]) e qa qb rx ry
  | .scr _, _, _, _, _, _, _, _, ha, _, _, _, _, _, _ => by simp [okT] at ha
  | .dT _ _, _, _, _, _, _, _, _, ha, _, _, _, _, _, _ => by simp [okT] at ha
  | .tup xs, b, x, y, v, u, n, hn, ha, hb, e, qa, qb, rx, ry => by
    cases b <;> simp only [eqD] at e <;> first | cases e | skip
    rename_i ys
    obtain ⟨p, us, rfl, g1, q1⟩ := Den.tup_iff.mp qa
    obtain ⟨p', ws, rfl, g2, q2⟩ := Den.tup_iff.mp qb
    obtain rfl : v = Value.ref p := rx
    obtain rfl : u = Value.ref p' := ry
    by_cases hp : p = p'
    · subst hp; exact .same
    obtain ⟨vs, r1, t1, _⟩ := I.tuple (.inl (.of g1))
    obtain ⟨vs', r2, t2, _⟩ := I.tuple (.inl (.of g2))
    simp only [depT] at hn
    match n, hn with
    | n + 1, hn =>
      obtain ⟨hsz, hj⟩ := treesT I xs ys (n := n) (by omega) (by simpa [okT] using ha) (by simpa [okT] using hb) e q1 q2 r1 r2
      have := PySem.W.EqTree.tuples (prog := X.prog) (w := X.w) (s := s) (n := n) (e := fun _ => true) hp t1 t2 (fun j h1 h2 => by simpa using hj j (by simpa using h1) (by simpa using h2))
      rw [allT] at this
      simpa [hsz] using this
  | .lst xs, b, x, y, v, u, n, hn, ha, hb, e, qa, qb, rx, ry => by
    cases b <;> simp only [eqD] at e <;> first | cases e | skip
    · rename_i ys
      obtain ⟨p, us, rfl, g1, q1⟩ := Den.lst_iff.mp qa
      obtain ⟨p', ws, rfl, g2, q2⟩ := Den.lst_iff.mp qb
      obtain rfl : v = Value.ref p := rx
      obtain rfl : u = Value.ref p' := ry
      by_cases hp : p = p'
      · subst hp; exact .same
      obtain ⟨vs, r1, t1, _⟩ := I.list (.inl (.of g1))
      obtain ⟨vs', r2, t2, _⟩ := I.list (.inl (.of g2))
      simp only [depT] at hn
      match n, hn with
      | n + 1, hn =>
        obtain ⟨hsz, hj⟩ := treesT I xs ys (n := n) (by omega) (by simpa [okT] using ha) (by simpa [okT] using hb) e q1 q2 r1 r2
        have := PySem.W.EqTree.lists (prog := X.prog) (w := X.w) (s := s) (n := n) (e := fun _ => true) hp t1.isList t2.isList (by simpa using hsz) (fun j h1 h2 => by simpa using hj j (by simpa using h1) (by simpa using h2))
        rw [allT] at this
        exact this
    · simp [okT] at hb
  | .dK ks ds, b, x, y, v, u, n, hn, ha, hb, e, qa, qb, rx, ry => by
    cases b <;> simp only [eqD] at e <;> first | cases e | skip
    rename_i js es
    rw [Bool.and_eq_true, beq_iff_eq] at e
    obtain ⟨e1, e2⟩ := e
    obtain ⟨p, us, rfl, g1, l1, q1⟩ := Den.dK_iff.mp qa
    obtain ⟨p', ws, rfl, g2, l2, q2⟩ := Den.dK_iff.mp qb
    obtain rfl : v = Value.ref p := rx
    obtain rfl : u = Value.ref p' := ry
    by_cases hp : p = p'
    · subst hp; exact .same
    obtain ⟨_, ya, va, ra, da⟩ := (show ObjOk X.prog X.w H s.heap p (.dK _) from g1.ok I.hok)
    obtain ⟨_, yb, vb, rb, db⟩ := (show ObjOk X.prog X.w H s.heap p' (.dK _) from g2.ok I.hok)
    have ea : va.length = ks.length := by rw [← ra.length, List.length_zip, List.length_map, q1.length, ← l1, Nat.min_self]
    have eb : vb.length = js.length := by rw [← rb.length, List.length_zip, List.length_map, q2.length, ← l2, Nat.min_self]
    simp only [depT] at hn
    match n, hn with
    | n + 1, hn =>
      have hh := hitsT I l2 q2 rb (by simpa [okT] using hb) ks ds (n := n) (by omega) l1 q1 ra (by simpa [okT] using ha) e2
      have := PySem.W.EqTree.dicts (prog := X.prog) (w := X.w) (s := s) (n := n) (e := fun _ => true) hp ya yb da db (fun k v y hm hv => (hh (k, v) hm).2 y hv)
      have h2 : (va.all fun p => (PySem.valueAt vb p.1).isSome && true) = true := List.all_eq_true.mpr fun q hq => by
        rw [Bool.and_true]
        exact (hh q hq).1
      rw [h2, ea, eb, e1] at this
      simpa using this
theorem treesT (I : Inv X pins σ H s) : ∀ (as bs : List D) {xs ys : List V} {vs us : List Value} {n : Nat}, depTs as + 4 ≤ n → okTs as = true → okTs bs = true → eqDs as bs = true → Dens X.K H as xs → Dens X.K H bs ys → Vals xs vs → Vals ys us → vs.length = us.length ∧ ∀ j (h1 : j < vs.length) (h2 : j < us.length), PySem.W.EqTree X.prog X.w s n vs[j] us[j] true
  | [], [], _, _, _, _, _, _, _, _, _, qa, qb, rx, ry => by
    rw [Dens.nil.mp qa] at rx
    rw [Dens.nil.mp qb] at ry
    cases rx
    cases ry
    exact ⟨rfl, fun j h1 _ => absurd h1 (Nat.not_lt_zero j)⟩
  | [], _ :: _, _, _, _, _, _, _, _, _, e, _, _, _, _ => by simp [eqDs] at e
  | _ :: _, [], _, _, _, _, _, _, _, _, e, _, _, _, _ => by simp [eqDs] at e
  | a :: as, b :: bs, xs, ys, vs, us, n, hn, ha, hb, e, qa, qb, rx, ry => by
    obtain ⟨x, xs', rfl, qa1, qa2⟩ := Dens.cons.mp qa
    obtain ⟨y, ys', rfl, qb1, qb2⟩ := Dens.cons.mp qb
    simp only [okTs, Bool.and_eq_true] at ha hb
    simp only [eqDs, Bool.and_eq_true] at e
    simp only [depTs] at hn
    cases rx with
    | cons r1 r2 =>
      cases ry with
      | cons s1 s2 =>
        have t1 := treeT I a b (n := n) (by omega) ha.1 hb.1 e.1 qa1 qb1 r1 s1
        obtain ⟨t2, t3⟩ := treesT I as bs (n := n) (by omega) ha.2 hb.2 e.2 qa2 qb2 r2 s2
        refine ⟨by simp [t2], fun j h1 h2 => ?_⟩
        cases j with
        | zero => exact t1
        | succ j => exact t3 j (by simpa using h1) (by simpa using h2)
theorem hitsT (I : Inv X pins σ H s) {js : List K1} {es : List D} {ws : List V} {vb : List (Key × Value)} (hjl : js.length = es.length) (qb : Dens X.K H es ws) (kb : KV ((js.map kk).zip ws) vb) (hb : okTs es = true) : ∀ (ks : List K1) (ds : List D) {us : List V} {va : List (Key × Value)} {n : Nat}, depTs ds + 4 ≤ n → ks.length = ds.length → Dens X.K H ds us → KV ((ks.map kk).zip us) va → okTs ds = true → eqKs ks ds js es = true → ∀ q ∈ va, (PySem.valueAt vb q.1).isSome = true ∧ ∀ y, PySem.valueAt vb q.1 = some y → PySem.W.EqTree X.prog X.w s n q.2 y true
  | [], _, _, _, _, _, _, _, kv, _, _ => by
    simp only [List.map_nil, List.zip_nil_left] at kv
    cases kv
    exact fun q h => (List.not_mem_nil h).elim
  | _ :: _, [], _, _, _, _, hl, _, _, _, _ => by simp at hl
  | k :: ks, d :: ds, us, va, n, hn, hl, q, kv, hd, e => by
    obtain ⟨u, us', rfl, qa, qd⟩ := Dens.cons.mp q
    simp only [okTs, Bool.and_eq_true] at hd
    simp only [depTs] at hn
    simp only [eqKs, Bool.and_eq_true] at e
    cases kv with
    | @cons _ y _ zs r t =>
      obtain ⟨y1, y2⟩ := y
      obtain ⟨r1, r2⟩ := r
      dsimp only at r1 r2
      subst r1
      have ih := hitsT I hjl qb kb hb ks ds (n := n) (by omega) (by simpa using hl) qd t hd.2 e.2
      intro q hq
      rcases List.mem_cons.mp hq with rfl | hq
      · rcases dlook_zip (g := kk) (fun _ _ => kk_inj) k hjl qb with ⟨f, x, h1, h2, h3⟩ | ⟨h1, h2⟩
        · obtain ⟨z, hz, rz⟩ := (kv_find kb (kk k)).1 x h2
          have e1 := e.1
          rw [h1] at e1
          dsimp only at e1 ⊢
          refine ⟨by rw [hz]; rfl, fun y hy => ?_⟩
          rw [hz] at hy
          cases hy
          exact treeT I d f (by omega) hd.1 (dlook_okT h1 hb) e1 qa h3 r2 rz
        · have e1 := e.1
          rw [h1] at e1
          cases e1
      · exact ih q hq
end
end
def rEqT (K : PySem.W.Frag) (a b : D) (r : Bool) : R2 := fun x y H Q => Den K H a x ∧ Den K H b y ∧ Q (.bl r) H
theorem op_eqT (hu : X.A.units + 200 < cLine) (a b : D) (h0 : eqOkT a b = true) : OpR X (compareOp .Eq) (rEqT X.K a b true) := by
  intro pins s σ H x y v u Q I rx ry h
  obtain ⟨qa, qb, q⟩ := h
  have fin : EP X pins σ Q (Value.bool true) s := ⟨.bl true, H, I, rfl, q⟩
  simp only [eqOkT, Bool.and_eq_true, decide_eq_true_eq] at h0
  obtain ⟨⟨⟨⟨ha, hb⟩, hd⟩, e⟩, ht⟩ := h0
  cases a <;> first | cases ht | skip
  · rename_i xs
    cases b <;> simp only [eqD] at e <;> first | cases e | skip
    rename_i ys
    obtain ⟨p, us, rfl, g1, q1⟩ := Den.tup_iff.mp qa
    obtain ⟨p', ws, rfl, g2, q2⟩ := Den.tup_iff.mp qb
    obtain rfl : v = Value.ref p := rx
    obtain rfl : u = Value.ref p' := ry
    obtain ⟨vs, r1, t1, _⟩ := I.tuple (.inl (.of g1))
    obtain ⟨vs', r2, t2, _⟩ := I.tuple (.inl (.of g2))
    simp only [depT] at hd
    obtain ⟨hsz, hj⟩ := treesT I xs ys (n := 160) (by omega) (by simpa [okT] using ha) (by simpa [okT] using hb) e q1 q2 r1 r2
    refine PySem.W.eq_tuplesT (n := 160) (e := fun _ => true) t1 t2 (fun j h1 h2 => by simpa using hj j (by simpa using h1) (by simpa using h2)) (by omega) ?_
    rw [allT]
    simpa [hsz] using fin
  · rename_i xs
    cases b <;> simp only [eqD] at e <;> first | cases e | skip
    · rename_i ys
      obtain ⟨p, us, rfl, g1, q1⟩ := Den.lst_iff.mp qa
      obtain ⟨p', ws, rfl, g2, q2⟩ := Den.lst_iff.mp qb
      obtain rfl : v = Value.ref p := rx
      obtain rfl : u = Value.ref p' := ry
      obtain ⟨vs, r1, t1, _⟩ := I.list (.inl (.of g1))
      obtain ⟨vs', r2, t2, _⟩ := I.list (.inl (.of g2))
      simp only [depT] at hd
      obtain ⟨hsz, hj⟩ := treesT I xs ys (n := 160) (by omega) (by simpa [okT] using ha) (by simpa [okT] using hb) e q1 q2 r1 r2
      refine PySem.W.eq_listsT (n := 160) (e := fun _ => true) t1.isList t2.isList (by simpa using hsz) (fun j h1 h2 => by simpa using hj j (by simpa using h1) (by simpa using h2)) (by omega) ?_
      rw [allT]
      exact fin
    · simp [okT] at hb
  · rename_i ks ds
    cases b <;> simp only [eqD] at e <;> first | cases e | skip
    rename_i js es
    rw [Bool.and_eq_true, beq_iff_eq] at e
    obtain ⟨e1, e2⟩ := e
    obtain ⟨p, us, rfl, g1, l1, q1⟩ := Den.dK_iff.mp qa
    obtain ⟨p', ws, rfl, g2, l2, q2⟩ := Den.dK_iff.mp qb
    obtain rfl : v = Value.ref p := rx
    obtain rfl : u = Value.ref p' := ry
    obtain ⟨_, ya, va, ra, da⟩ := (show ObjOk X.prog X.w H s.heap p (.dK _) from g1.ok I.hok)
    obtain ⟨_, yb, vb, rb, db⟩ := (show ObjOk X.prog X.w H s.heap p' (.dK _) from g2.ok I.hok)
    have ea : va.length = ks.length := by rw [← ra.length, List.length_zip, List.length_map, q1.length, ← l1, Nat.min_self]
    have eb : vb.length = js.length := by rw [← rb.length, List.length_zip, List.length_map, q2.length, ← l2, Nat.min_self]
    simp only [depT] at hd
    have hh := hitsT I l2 q2 rb (by simpa [okT] using hb) ks ds (n := 160) (by omega) l1 q1 ra (by simpa [okT] using ha) e2
    refine PySem.W.eq_dictsT (n := 160) (e := fun _ => true) ya yb da db (fun k v y hm hv => (hh (k, v) hm).2 y hv) (by omega) ?_
    have h2 : (va.all fun p => (PySem.valueAt vb p.1).isSome && true) = true := List.all_eq_true.mpr fun q hq => by
      rw [Bool.and_true]
      exact (hh q hq).1
    rw [h2, ea, eb, e1]
    simpa using fin
theorem op_neT (hu : X.A.units + 200 < cLine) (a b : D) (h0 : eqOkL a b = true) : OpR X (compareOp .NotEq) (rEqT X.K a b false) := by
  intro pins s σ H x y v u Q I rx ry h
  obtain ⟨qa, qb, q⟩ := h
  cases a <;> first | cases h0 | skip
  rename_i xs
  simp only [eqOkL, eqOkT, Bool.and_eq_true, decide_eq_true_eq] at h0
  obtain ⟨⟨⟨⟨ha, hb⟩, hd⟩, e⟩, _⟩ := h0
  cases b <;> simp only [eqD] at e <;> first | cases e | skip
  · rename_i ys
    obtain ⟨p, us, rfl, g1, q1⟩ := Den.lst_iff.mp qa
    obtain ⟨p', ws, rfl, g2, q2⟩ := Den.lst_iff.mp qb
    obtain rfl : v = Value.ref p := rx
    obtain rfl : u = Value.ref p' := ry
    obtain ⟨vs, r1, t1, _⟩ := I.list (.inl (.of g1))
    obtain ⟨vs', r2, t2, _⟩ := I.list (.inl (.of g2))
    simp only [depT] at hd
    obtain ⟨hsz, hj⟩ := treesT I xs ys (n := 160) (by omega) (by simpa [okT] using ha) (by simpa [okT] using hb) e q1 q2 r1 r2
    exact neLists t1.isList t2.isList (by simpa using hsz) (by omega) (fun j h1 h2 => (show PySem.W.EqTree X.prog X.w s 160 _ _ true by simpa using hj j (by simpa using h1) (by simpa using h2)).at _ (by show X.A.units + 1 + 160 < cLine; omega)) ⟨.bl false, H, I, rfl, q⟩
  · simp [okT] at hb
end
section
variable {X : Cx} {cs : Nat → Option Addr} {e e1 e2 e3 : Expr} {f f1 f2 f3 : Env → Sto → Option (Val × Sto)} {pos : Pos}
/-- a value's data, all of it in H -/
theorem snap_den {F B H : Hp} {as : List Addr} {st : Sto} (r : RSt X.K cs F B as st H) {v : Val} {u : V} {d : D} (h : snap st v = some d) (q : VOk X.K F B as v u) : Den X.K H d u := by
  rcases snap_top r h q with ⟨d', rfl, rfl, z⟩ | z
  · exact Den.mono r.fh _ _ z
  · cases d <;> first | exact z.elim | skip
    · obtain ⟨p, us, rfl, a, b⟩ := z
      exact Den.lst_iff.mpr ⟨p, us, rfl, a, Dens.mono r.fh _ _ b⟩
    · obtain ⟨p, us, rfl, a, l, b⟩ := z
      exact Den.dK_iff.mpr ⟨p, us, rfl, a, l, Dens.mono r.fh _ _ b⟩
    · obtain ⟨p, us, rfl, a, l, b⟩ := z
      exact Den.dT_iff.mpr ⟨p, us, rfl, a, l, Dens.mono r.fh _ _ b⟩
def copB : COp → CmpOp
  | .eq => .Eq | .ne => .NotEq | .lt => .Lt | .le => .LtE | .gt => .Gt | .ge => .GtE | .is => .Is | .isnot => .IsNot | .inn => .In | .notin => .NotIn
theorem none_ref {K : PySem.W.Frag} {F B : Hp} {as : List Addr} {v : Val} {u : V} (h : VOk K F B as v u) (n : ∀ d, v = .dat d → d ≠ .non) : u ≠ .non := by
  cases v with
  | dat d =>
    have n' := n d rfl
    intro e
    subst e
    cases d <;> simp [VOk, Den] at h n'
  | bor d =>
    intro e
    subst e
    cases d <;> first | exact h.elim | (obtain ⟨_, _, e, _⟩ := h; cases e)
  | ref l => obtain ⟨a, _, rfl⟩ := h; simp
/-- what in, not in ask -/
theorem in_rule (hu : X.A.units + 200 < cLine) {x y : Val} {st : Sto} {c : Bool} (h : cmpV.inV st x y = some c) (neg : Bool) : ∃ R : R2, OpR X (compareOp (if neg then .NotIn else .In)) R ∧
    ∀ (F B : Hp) (as : List Addr) (H : Hp) (u w : V) (Q : VK), RSt X.K cs F B as st H → VOk X.K F B as x u → VOk X.K F B as y w → Q (.bl (if neg then !c else c)) H → R u w H Q := by
  unfold cmpV.inV at h
  split at h
  · -- a sign in a text
    rename_i a b h1 h2
    split at h
    · rename_i z
      cases h
      cases neg
      · refine ⟨_, op_in_sign, fun F B as H u w Q r q1 q2 hq => ⟨z, S b, ?_, Den.str_iff.mp (snap_dat r h2 q2 trivial), by rw [S_cps]; exact hq⟩⟩
        have := Den.str_iff.mp (snap_dat r h1 q1 trivial)
        rw [this]; rfl
      · refine ⟨_, op_notIn_sign, fun F B as H u w Q r q1 q2 hq => ⟨z, S b, ?_, Den.str_iff.mp (snap_dat r h2 q2 trivial), by rw [S_cps]; exact hq⟩⟩
        have := Den.str_iff.mp (snap_dat r h1 q1 trivial)
        rw [this]; rfl
    · cases h
  · rename_i k ks ds h1 h2
    obtain ⟨k', hk, h⟩ := omap h
    subst h
    have fin : ∀ (F B : Hp) (as : List Addr) (H : Hp) (u w : V) (Q : VK), RSt X.K cs F B as st H → VOk X.K F B as x u → VOk X.K F B as y w → Q (.bl (if neg then !(dlook ks ds k').isSome else (dlook ks ds k').isSome)) H → rInDict neg u w H Q := fun F B as H u w Q r q1 q2 hq => by
      obtain ⟨a, o, e, g, z⟩ := get_dK r h2 q2 hk (snap_dat r h1 q1 (toK_scal hk))
      refine ⟨a, o, e, g, ?_⟩
      rcases z with ⟨d, x, e1, e2, _⟩ | ⟨e1, e2⟩
      · rw [e1] at hq; rw [e2]; exact hq
      · rw [e1] at hq; rw [e2]; exact hq
    cases neg
    · exact ⟨_, op_inDict (by omega), fin⟩
    · exact ⟨_, op_notInDict (by omega), fin⟩
  · rename_i k ks ds h1 h2
    obtain ⟨k', hk, h⟩ := omap h
    subst h
    have fin : ∀ (F B : Hp) (as : List Addr) (H : Hp) (u w : V) (Q : VK), RSt X.K cs F B as st H → VOk X.K F B as x u → VOk X.K F B as y w → Q (.bl (if neg then !(dlook ks ds k').isSome else (dlook ks ds k').isSome)) H → rInDict neg u w H Q := fun F B as H u w Q r q1 q2 hq => by
      obtain ⟨a, o, e, g, z⟩ := get_dT r h2 q2 hk (snap_dat r h1 q1 (toTK_scal hk))
      refine ⟨a, o, e, g, ?_⟩
      rcases z with ⟨d, x, e1, e2, _⟩ | ⟨e1, e2⟩
      · rw [e1] at hq; rw [e2]; exact hq
      · rw [e1] at hq; rw [e2]; exact hq
    cases neg
    · exact ⟨_, op_inDict (by omega), fin⟩
    · exact ⟨_, op_notInDict (by omega), fin⟩
  · rename_i a ds h1 h2
    split at h
    · rename_i hc
      cases h
      rw [Bool.and_eq_true, Bool.and_eq_true, decide_eq_true_eq] at hc
      have fin : ∀ (F B : Hp) (as : List Addr) (H : Hp) (u w : V) (Q : VK), RSt X.K cs F B as st H → VOk X.K F B as x u → VOk X.K F B as y w → Q (.bl (if neg then !(ds.any fun d => eqD d a) else ds.any fun d => eqD d a)) H → rInP X.K neg u w H Q := fun F B as H u w Q r q1 q2 hq =>
        ⟨toP a, toPs ds, snap_dp r h1 hc.1.1 q1, .inl (by have z := snap_dp r h2 (by simpa [nod] using hc.1.2) q2; simpa only [toP] using z), toP_plain a hc.1.1, toPs_plain ds hc.1.2, Nat.le_trans (toP_dep a) hc.2, by rw [any_eq hc.1.2 hc.1.1]; exact hq⟩
      cases neg
      · exact ⟨_, op_inP hu, fin⟩
      · exact ⟨_, op_notInP hu, fin⟩
    · cases h
  · rename_i a ds h1 h2
    split at h
    · rename_i hc
      cases h
      rw [Bool.and_eq_true, Bool.and_eq_true, decide_eq_true_eq] at hc
      have fin : ∀ (F B : Hp) (as : List Addr) (H : Hp) (u w : V) (Q : VK), RSt X.K cs F B as st H → VOk X.K F B as x u → VOk X.K F B as y w → Q (.bl (if neg then !(ds.any fun d => eqD d a) else ds.any fun d => eqD d a)) H → rInP X.K neg u w H Q := fun F B as H u w Q r q1 q2 hq =>
        ⟨toP a, toPs ds, snap_dp r h1 hc.1.1 q1, .inr (by have z := snap_dp r h2 (by simpa [nod] using hc.1.2) q2; simpa only [toP] using z), toP_plain a hc.1.1, toPs_plain ds hc.1.2, Nat.le_trans (toP_dep a) hc.2, by rw [any_eq hc.1.2 hc.1.1]; exact hq⟩
      cases neg
      · exact ⟨_, op_inP hu, fin⟩
      · exact ⟨_, op_notInP hu, fin⟩
    · cases h
  · cases h
theorem cmp_rule (hu : X.A.units + 200 < cLine) {o : COp} {x y : Val} {st : Sto} {c : Bool} (h : cmpV o x y st = some c) : ∃ R : R2, OpR X (compareOp (copB o)) R ∧
    ∀ (F B : Hp) (as : List Addr) (H : Hp) (u w : V) (Q : VK), RSt X.K cs F B as st H → VOk X.K F B as x u → VOk X.K F B as y w → Q (.bl c) H → R u w H Q := by
  unfold cmpV at h
  split at h
  · cases h; exact ⟨_, op_lt, fun F B as H u w Q r q1 q2 hq => ⟨_, _, int_of q1, int_of q2, hq⟩⟩
  · cases h; exact ⟨_, op_le, fun F B as H u w Q r q1 q2 hq => ⟨_, _, int_of q1, int_of q2, hq⟩⟩
  · cases h; exact ⟨_, op_gt, fun F B as H u w Q r q1 q2 hq => ⟨_, _, int_of q1, int_of q2, hq⟩⟩
  · cases h; exact ⟨_, op_ge, fun F B as H u w Q r q1 q2 hq => ⟨_, _, int_of q1, int_of q2, hq⟩⟩
  · cases h; exact ⟨_, op_lt_str, fun F B as H u w Q r q1 q2 hq => ⟨_, _, str_of q1, str_of q2, by rw [ltW_cps]; exact hq⟩⟩
  · cases h; exact ⟨_, op_le_str, fun F B as H u w Q r q1 q2 hq => ⟨_, _, str_of q1, str_of q2, by rw [ltW_cps]; exact hq⟩⟩
  · cases h; exact ⟨_, op_gt_str, fun F B as H u w Q r q1 q2 hq => ⟨_, _, str_of q1, str_of q2, by rw [ltW_cps]; exact hq⟩⟩
  · cases h; exact ⟨_, op_ge_str, fun F B as H u w Q r q1 q2 hq => ⟨_, _, str_of q1, str_of q2, by rw [ltW_cps]; exact hq⟩⟩
  · cases h; exact ⟨_, op_isN, fun F B as H u w Q r q1 q2 hq => ⟨non_of q2, by rw [non_of q1]; exact hq⟩⟩
  · rename_i a b
    cases h; exact ⟨_, op_isBl, fun F B as H u w Q r q1 q2 hq => ⟨_, _, bl_of q1, bl_of q2, by
      have e : decide (a = b) = (a == b) := by cases a <;> cases b <;> rfl
      rw [e]; exact hq⟩⟩
  · rename_i hn
    cases h; exact ⟨_, op_isN, fun F B as H u w Q r q1 q2 hq => ⟨non_of q2, by
      rw [decide_eq_false (none_ref q1 fun d e z => hn (by rw [e, z]))]; exact hq⟩⟩
  · cases h; exact ⟨_, op_notN, fun F B as H u w Q r q1 q2 hq => ⟨non_of q2, by rw [non_of q1]; exact hq⟩⟩
  · rename_i a b
    cases h; exact ⟨_, op_notBl, fun F B as H u w Q r q1 q2 hq => ⟨_, _, bl_of q1, bl_of q2, by
      have e : decide (a = b) = (a == b) := by cases a <;> cases b <;> rfl
      rw [e]; exact hq⟩⟩
  · rename_i hn
    cases h; exact ⟨_, op_notN, fun F B as H u w Q r q1 q2 hq => ⟨non_of q2, by
      rw [decide_eq_false (none_ref q1 fun d e z => hn (by rw [e, z]))]; exact hq⟩⟩
  · split at h
    · rename_i a b h1 h2
      split at h
      · rename_i hc
        cases h
        rw [Bool.or_eq_true] at hc
        rcases hc with hc | hc
        case inr => exact ⟨_, op_eqT hu a b hc, fun F B as H u w Q r q1 q2 hq => ⟨snap_den r h1 q1, snap_den r h2 q2, by rw [eqOkT_eq hc] at hq; exact hq⟩⟩
        unfold eqOk at hc
        rw [Bool.or_eq_true] at hc
        rcases hc with hc | hc
        case inr => exact ⟨_, op_eqK hu a b false, fun F B as H u w Q r q1 q2 hq => ⟨hc, snap_den r h1 q1, snap_den r h2 q2, hq⟩⟩
        rw [Bool.and_eq_true, Bool.and_eq_true, decide_eq_true_eq] at hc
        refine ⟨_, op_eqP hu, fun F B as H u w Q r q1 q2 hq => ⟨toP a, toP b, snap_dp r h1 hc.1.1 q1, snap_dp r h2 hc.1.2 q2, toP_plain a hc.1.1, toP_plain b hc.1.2, ?_, ?_⟩⟩
        · have := toP_dep a; have := toP_dep b; omega
        · show Q (.bl (PyData.eqv (toP a) (toP b))) H
          rw [eqD_ok a b hc.1.1 hc.1.2]; exact hq
      · cases h
    · cases h
  · split at h
    · rename_i a b h1 h2
      split at h
      · rename_i hc
        cases h
        rw [Bool.or_eq_true] at hc
        rcases hc with hc | hc
        case inr => exact ⟨_, op_neT hu a b hc, fun F B as H u w Q r q1 q2 hq => ⟨snap_den r h1 q1, snap_den r h2 q2, by rw [eqOkL_eq hc] at hq; exact hq⟩⟩
        unfold eqOk at hc
        rw [Bool.or_eq_true] at hc
        rcases hc with hc | hc
        case inr => exact ⟨_, op_eqK hu a b true, fun F B as H u w Q r q1 q2 hq => ⟨hc, snap_den r h1 q1, snap_den r h2 q2, hq⟩⟩
        rw [Bool.and_eq_true, Bool.and_eq_true, decide_eq_true_eq] at hc
        refine ⟨_, op_neP hu, fun F B as H u w Q r q1 q2 hq => ⟨toP a, toP b, snap_dp r h1 hc.1.1 q1, snap_dp r h2 hc.1.2 q2, toP_plain a hc.1.1, toP_plain b hc.1.2, ?_, ?_⟩⟩
        · have := toP_dep a; have := toP_dep b; omega
        · show Q (.bl (!PyData.eqv (toP a) (toP b))) H
          rw [eqD_ok a b hc.1.1 hc.1.2]; exact hq
      · cases h
    · cases h
  · exact in_rule (cs := cs) hu h false
  · obtain ⟨c', hc, h⟩ := omap h
    subst h
    exact in_rule (cs := cs) hu hc true
  · cases h
end
end NK
set_option Elab.async false
set_option linter.all false
set_option autoImplicit false
set_option maxRecDepth 100000
/-! NkG: tests, tuples, subscripts, slices, calls. -/
namespace NK
open PySem PySem.Spec PyProof.Rows L2
section
variable {X : Cx} {cs : Nat → Option Addr} {e e1 e2 e3 : Expr} {es : List Expr} {f f1 f2 f3 : Env → Sto → Option (Val × Sto)} {g : Env → Sto → Option (List Val × Sto)} {pos : Pos}
/-! ### comparisons, as values and tests -/
def fCmp (o : COp) (f1 f2 : Env → Sto → Option (Val × Sto)) : Env → Sto → Option (Val × Sto) := fun env st => (f1 env st).bind fun r => (f2 env r.2).bind fun q => (cmpV o r.1 q.1 q.2).map fun c => (.dat (.bl c), q.2)
theorem s_cmp (hu : X.A.units + 200 < cLine) {o : COp} (h1 : PE X e1 (tE X.K cs f1)) (h2 : PE X e2 (tE X.K cs f2)) (hm : behindInMarks (copB o) e2 = false) : PE X (.Compare e1 [copB o] [e2] pos) (tE X.K cs (fCmp o f1 f2)) := by
  refine ⟨fun pins s σ H Q I h => ?_⟩
  obtain ⟨F, B, as, env, st, v, st', r, ev, k⟩ := h
  obtain ⟨⟨x, st1⟩, ha, ev1⟩ := obnd ev
  obtain ⟨⟨y, st2⟩, hb, ev2⟩ := obnd ev1
  obtain ⟨c, hc, ev3⟩ := omap ev2
  clear ev ev1 ev2
  cases ev3
  obtain ⟨R, hR, hk⟩ := cmp_rule (cs := cs) hu hc
  exact (pe_cmpR hR h1 h2 hm).run pins s σ H Q I (two r ha hb fun F' as' H' u w r' x' v1 v2 => hk F' B as' H' u w Q r'.toRSt v1 v2 (k F' as' H' _ r' x' vbl))
theorem boolR_of {o : Option (Val × Sto)} {b : Bool} {st : Sto} (h : o.bind boolR = some (b, st)) : o = some (.dat (.bl b), st) := by
  obtain ⟨⟨v, s⟩, e, h'⟩ := obnd h
  clear h
  subst e
  unfold boolR at h'
  split at h'
  · rename_i hv
    cases h'
    dsimp only at hv
    rw [hv]
  · cases h'
theorem s_cmpT (hu : X.A.units + 200 < cLine) {o : COp} (h1 : PE X e1 (tE X.K cs f1)) (h2 : PE X e2 (tE X.K cs f2)) (hm : behindInMarks (copB o) e2 = false) : PT X (.Compare e1 [copB o] [e2] pos) (tB X.K cs fun env st => (fCmp o f1 f2 env st).bind boolR) := by
  refine ⟨fun pins s σ H Q I h => ?_⟩
  obtain ⟨F, B, as, env, st, v, st', r, ev0, k⟩ := h
  have ev := boolR_of ev0
  obtain ⟨⟨x, st1⟩, ha, ev1⟩ := obnd ev
  obtain ⟨⟨y, st2⟩, hb, ev2⟩ := obnd ev1
  obtain ⟨c, hc, ev3⟩ := omap ev2
  clear ev ev1 ev2
  cases ev3
  obtain ⟨R, hR, hk⟩ := cmp_rule (cs := cs) hu hc
  exact (pt_cmpR hR h1 h2 hm).run pins s σ H Q I (two (Q := fun x H' => ∃ k, x = .bl k ∧ Q k H') r ha hb fun F' as' H' u w r' x' v1 v2 => hk F' B as' H' u w _ r'.toRSt v1 v2 ⟨_, rfl, k F' as' H' r' x'⟩)
/-- a test whose value is a bool, by its value -/
theorem s_val (h : PE X e (tE X.K cs f)) (he : ∀ whole, isTrue e X.env whole = (do let v ← whole; standAt e.pos; holding [v] (truthy v))) : PT X e (tB X.K cs fun env st => (f env st).bind boolR) :=
  (pt_val h he).weak fun σ H Q ⟨F, B, as, env, st, b, st', r, ev, k⟩ => ⟨F, B, as, env, st, _, st', r, boolR_of ev, fun F' as' H' u r' x' v1 => ⟨b, bl_of v1, k F' as' H' r' x'⟩⟩
def fNot (f : Env → Sto → Option (Val × Sto)) : Env → Sto → Option (Val × Sto) := fun env st => ((f env st).bind boolR).map fun r => (.dat (.bl (!r.1)), r.2)
theorem s_not (h : PE X e (tE X.K cs f)) : PE X (.UnaryOp .Not e pos) (tE X.K cs (fNot f)) := (pe_not h).weak fun σ H Q ⟨F, B, as, env, st, b, st', r, ev, k⟩ => by
  obtain ⟨⟨c, s⟩, e1, e2⟩ := omap ev
  cases e2
  exact ⟨F, B, as, env, st, _, _, r, boolR_of e1, fun F' as' H' u r' x' v1 => ⟨c, bl_of v1, k F' as' H' _ r' x' vbl⟩⟩
theorem s_notT (h : PT X e (tB X.K cs fun env st => (f env st).bind boolR)) : PT X (.UnaryOp .Not e pos) (tB X.K cs fun env st => (fNot f env st).bind boolR) := (pt_not h).weak fun σ H Q ⟨F, B, as, env, st, b, st', r, ev, k⟩ => by
  have ev := boolR_of ev
  obtain ⟨⟨c, s⟩, e1, e2⟩ := omap ev
  cases e2
  exact ⟨F, B, as, env, st, _, _, r, e1, fun F' as' H' r' x' => k F' as' H' r' x'⟩
def fAnd (f1 f2 : Env → Sto → Option (Val × Sto)) : Env → Sto → Option (Val × Sto) := fun env st => ((f1 env st).bind boolR).bind fun r => if r.1 then f2 env r.2 else some (.dat (.bl false), r.2)
def fOr (f1 f2 : Env → Sto → Option (Val × Sto)) : Env → Sto → Option (Val × Sto) := fun env st => ((f1 env st).bind boolR).bind fun r => if r.1 then some (.dat (.bl true), r.2) else f2 env r.2
theorem s_and {b : Expr} {rest : List Expr} (h1 : PE X e1 (tE X.K cs f1)) (h2 : PE X (.BoolOp .And (b :: rest) pos) (tE X.K cs f2)) : PE X (.BoolOp .And (e1 :: b :: rest) pos) (tE X.K cs (fAnd f1 f2)) := (pe_and h1 h2).weak fun σ H Q ⟨F, B, as, env, st, v, st', r, ev, k⟩ => by
  obtain ⟨⟨c, s⟩, e1, e2⟩ := obnd ev
  refine ⟨F, B, as, env, st, _, _, r, boolR_of e1, fun F' as' H' u r' x' v1 => ⟨c, bl_of v1, ?_⟩⟩
  cases c
  · cases e2
    exact k F' as' H' _ r' x' vbl
  · exact ⟨F', B, as', env, s, v, st', r', e2, fun F2 as2 H2 u2 r2 x2 v2 => k F2 as2 H2 u2 r2 (x'.trans x2) v2⟩
theorem s_or {b : Expr} {rest : List Expr} (h1 : PE X e1 (tE X.K cs f1)) (h2 : PE X (.BoolOp .Or (b :: rest) pos) (tE X.K cs f2)) : PE X (.BoolOp .Or (e1 :: b :: rest) pos) (tE X.K cs (fOr f1 f2)) := (pe_or h1 h2).weak fun σ H Q ⟨F, B, as, env, st, v, st', r, ev, k⟩ => by
  obtain ⟨⟨c, s⟩, e1, e2⟩ := obnd ev
  refine ⟨F, B, as, env, st, _, _, r, boolR_of e1, fun F' as' H' u r' x' v1 => ⟨c, bl_of v1, ?_⟩⟩
  cases c
  · exact ⟨F', B, as', env, s, v, st', r', e2, fun F2 as2 H2 u2 r2 x2 v2 => k F2 as2 H2 u2 r2 (x'.trans x2) v2⟩
  · cases e2
    exact k F' as' H' _ r' x' vbl
theorem s_andW {b : Expr} {rest : List Expr} (h1 : PT X e1 (tB X.K cs fun env st => (f1 env st).bind boolR)) (h2 : PW X (.BoolOp .And (b :: rest) pos) (tB X.K cs fun env st => (f2 env st).bind boolR)) :
    PW X (.BoolOp .And (e1 :: b :: rest) pos) (tB X.K cs fun env st => (fAnd f1 f2 env st).bind boolR) := (pw_and h1 h2).weak fun σ H Q ⟨F, B, as, env, st, v, st', r, ev, k⟩ => by
  obtain ⟨⟨c, s⟩, e1, e2⟩ := obnd (boolR_of ev)
  refine ⟨F, B, as, env, st, c, s, r, e1, fun F' as' H' r' x' => ?_⟩
  cases c
  · cases e2
    rw [if_neg Bool.false_ne_true]
    exact k F' as' H' r' x'
  · rw [if_pos rfl]
    have e3 : f2 env s = some (.dat (.bl v), st') := e2
    exact ⟨F', B, as', env, s, v, st', r', by dsimp only; rw [e3]; rfl, fun F2 as2 H2 r2 x2 => k F2 as2 H2 r2 (x'.trans x2)⟩
theorem s_orW {b : Expr} {rest : List Expr} (h1 : PT X e1 (tB X.K cs fun env st => (f1 env st).bind boolR)) (h2 : PW X (.BoolOp .Or (b :: rest) pos) (tB X.K cs fun env st => (f2 env st).bind boolR)) :
    PW X (.BoolOp .Or (e1 :: b :: rest) pos) (tB X.K cs fun env st => (fOr f1 f2 env st).bind boolR) := (pw_or h1 h2).weak fun σ H Q ⟨F, B, as, env, st, v, st', r, ev, k⟩ => by
  obtain ⟨⟨c, s⟩, e1, e2⟩ := obnd (boolR_of ev)
  refine ⟨F, B, as, env, st, c, s, r, e1, fun F' as' H' r' x' => ?_⟩
  cases c
  · rw [if_neg Bool.false_ne_true]
    have e3 : f2 env s = some (.dat (.bl v), st') := e2
    exact ⟨F', B, as', env, s, v, st', r', by dsimp only; rw [e3]; rfl, fun F2 as2 H2 r2 x2 => k F2 as2 H2 r2 (x'.trans x2)⟩
  · cases e2
    rw [if_pos rfl]
    exact k F' as' H' r' x'
def fIte (c f1 f2 : Env → Sto → Option (Val × Sto)) : Env → Sto → Option (Val × Sto) := fun env st => ((c env st).bind boolR).bind fun r => if r.1 then f1 env r.2 else f2 env r.2
theorem s_ite (h : PT X e (tB X.K cs fun env st => (f env st).bind boolR)) (h1 : PE X e1 (tE X.K cs f1)) (h2 : PE X e2 (tE X.K cs f2)) : PE X (.IfExp e e1 e2 pos) (tE X.K cs (fIte f f1 f2)) := (pe_ifExp h h1 h2).weak fun σ H Q ⟨F, B, as, env, st, v, st', r, ev, k⟩ => by
  obtain ⟨⟨c, s⟩, e1, e2⟩ := obnd ev
  refine ⟨F, B, as, env, st, c, s, r, e1, fun F' as' H' r' x' => ?_⟩
  cases c
  · rw [if_neg Bool.false_ne_true]
    exact ⟨F', B, as', env, s, v, st', r', e2, fun F2 as2 H2 u2 r2 x2 v2 => k F2 as2 H2 u2 r2 (x'.trans x2) v2⟩
  · rw [if_pos rfl]
    exact ⟨F', B, as', env, s, v, st', r', e2, fun F2 as2 H2 u2 r2 x2 v2 => k F2 as2 H2 u2 r2 (x'.trans x2) v2⟩
def fChain (o o' : COp) (f1 f2 f3 : Env → Sto → Option (Val × Sto)) : Env → Sto → Option (Val × Sto) := fun env st => (f1 env st).bind fun r => (f2 env r.2).bind fun q => (cmpV o r.1 q.1 q.2).bind fun t =>
      if t then (f3 env q.2).bind fun s => (cmpV o' q.1 s.1 s.2).map fun t => (.dat (.bl t), s.2) else some (.dat (.bl false), q.2)
theorem chain_of (hu : X.A.units + 200 < cLine) {o o' : COp} {F B : Hp} {as : List Addr} {env : Env} {st : Sto} {v : Val} {st' : Sto} {σ : L2.St} {H : Hp} (r : Rel X.K cs F B as env st σ H) (ev : fChain o o' f1 f2 f3 env st = some (v, st')) {Q : VK}
    (k : ∀ b F' as' H', v = .dat (.bl b) → Rel X.K cs F' B as' env st' σ H' → Ext F as H F' as' H' → Q (.bl b) H') :
    ∃ R R' : R2, OpR X (compareOp (copB o)) R ∧ OpR X (compareOp (copB o')) R' ∧ tChain R R' (tE X.K cs f1) (tE X.K cs f2) (tE X.K cs f3) σ H Q := by
  obtain ⟨⟨x, st1⟩, ha, ev1⟩ := obnd ev
  obtain ⟨⟨y, st2⟩, hb, ev2⟩ := obnd ev1
  obtain ⟨c, hc, ev3⟩ := obnd ev2
  clear ev ev1 ev2
  obtain ⟨R, hR, hk⟩ := cmp_rule (cs := cs) hu hc
  cases c
  · cases ev3
    refine ⟨R, fun _ _ _ _ => False, hR, fun _ _ _ _ _ _ _ _ _ _ _ _ h => h.elim, F, B, as, env, st, x, st1, r, ha, fun F1 as1 H1 u r1 x1 v1 => ⟨F1, B, as1, env, st1, y, st2, r1, hb, fun F2 as2 H2 w r2 x2 v2 => ?_⟩⟩
    refine hk F2 B as2 H2 u w _ r2.toRSt (v1.ext x2) v2 ⟨false, rfl, ?_⟩
    show if false = true then _ else _
    rw [if_neg Bool.false_ne_true]
    exact k false F2 as2 H2 rfl r2 (x1.trans x2)
  · dsimp only at ev3
    rw [if_pos rfl] at ev3
    obtain ⟨⟨z, st3⟩, hd, ev4⟩ := obnd ev3
    obtain ⟨c', hc', ev5⟩ := omap ev4
    cases ev5
    obtain ⟨R', hR', hk'⟩ := cmp_rule (cs := cs) hu hc'
    refine ⟨R, R', hR, hR', F, B, as, env, st, x, st1, r, ha, fun F1 as1 H1 u r1 x1 v1 => ⟨F1, B, as1, env, st1, y, st2, r1, hb, fun F2 as2 H2 w r2 x2 v2 => ?_⟩⟩
    refine hk F2 B as2 H2 u w _ r2.toRSt (v1.ext x2) v2 ⟨true, rfl, ?_⟩
    show if true = true then _ else _
    rw [if_pos rfl]
    refine ⟨F2, B, as2, env, st2, z, st3, r2, hd, fun F3 as3 H3 t r3 x3 v3 => ?_⟩
    exact hk' F3 B as3 H3 w t _ r3.toRSt (v2.ext x3) v3 (k c' F3 as3 H3 rfl r3 ((x1.trans x2).trans x3))
theorem s_chain (hu : X.A.units + 200 < cLine) {o o' : COp} (h1 : PE X e1 (tE X.K cs f1)) (h2 : PE X e2 (tE X.K cs f2)) (h3 : PE X e3 (tE X.K cs f3)) (hm : lastMarks [copB o, copB o'] [e2, e3] = false) :
    PE X (.Compare e1 [copB o, copB o'] [e2, e3] pos) (tE X.K cs (fChain o o' f1 f2 f3)) := ⟨fun pins s σ H Q I ⟨F, B, as, env, st, v, st', r, ev, k⟩ => by
  obtain ⟨R, R', hR, hR', h⟩ := chain_of (cs := cs) (Q := Q) hu r ev fun b F' as' H' e r' x' => k F' as' H' _ r' x' (by rw [e]; exact vbl)
  exact (pe_chain hR hR' h1 h2 h3 hm).run pins s σ H Q I h⟩
theorem s_chainT (hu : X.A.units + 200 < cLine) {o o' : COp} (h1 : PE X e1 (tE X.K cs f1)) (h2 : PE X e2 (tE X.K cs f2)) (h3 : PE X e3 (tE X.K cs f3)) (hm : lastMarks [copB o, copB o'] [e2, e3] = false) :
    PT X (.Compare e1 [copB o, copB o'] [e2, e3] pos) (tB X.K cs fun env st => (fChain o o' f1 f2 f3 env st).bind boolR) := ⟨fun pins s σ H Q I ⟨F, B, as, env, st, v, st', r, ev, k⟩ => by
  obtain ⟨R, R', hR, hR', h⟩ := chain_of (cs := cs) (Q := fun x H' => ∃ k, x = .bl k ∧ Q k H') hu r (boolR_of ev) fun b F' as' H' e r' x' => ⟨b, rfl, by cases e; exact k F' as' H' r' x'⟩
  exact (pt_chain hR hR' h1 h2 h3 hm).run pins s σ H Q I h⟩
/-! ### argument lists -/
def nStar : Expr → Bool
  | .Starred _ _ => false
  | _ => true
def nSlice : Expr → Bool
  | .Slice _ _ _ _ => false
  | _ => true
theorem noStar {pe : Expr} {es : List Expr} {env : PySem.Env} (h : nStar pe = true) : starEach (pe :: es) env = (false, eval pe env) :: starEach es env := by
  cases pe <;> first | rfl | simp [nStar] at h
theorem s_nil : PA X [] (tEs X.K cs fun _ st => some ([], st)) := pa_nil.weak fun σ H Q ⟨F, B, as, env, st, v, st', r, ev, k⟩ => by
  cases ev
  exact k F as H [] r r.refl .nil
theorem s_cons (h1 : PE X e (tE X.K cs f)) (h2 : PA X es (tEs X.K cs g)) (hs : nStar e = true) :
    PA X (e :: es) (tEs X.K cs fun env st => (f env st).bind fun r => (g env r.2).map fun q => (r.1 :: q.1, q.2)) := (pa_cons h1 h2 (noStar hs)).weak fun σ H Q ⟨F, B, as, env, st, v, st', r, ev, k⟩ => by
  obtain ⟨⟨x, s1⟩, e1, ev1⟩ := obnd ev
  obtain ⟨⟨vs, s2⟩, e2, ev2⟩ := omap ev1
  cases ev2
  exact ⟨F, B, as, env, st, x, s1, r, e1, fun F1 as1 H1 u r1 x1 v1 => ⟨F1, B, as1, env, s1, vs, s2, r1, e2, fun F2 as2 H2 us r2 x2 v2 => k F2 as2 H2 (u :: us) r2 (x1.trans x2) (.cons (v1.ext x2) v2)⟩⟩
section
variable {F B H : Hp} {as : List Addr} {env : Env} {st : Sto} {σ : L2.St}
theorem toD_ok (r : Rel X.K cs F B as env st σ H) {v : Val} {u : V} {d : D} {st' : Sto} (h : toD v st = some (d, st')) (q : VOk X.K F B as v u) : ∃ F', Rel X.K cs F' B as env st' σ H ∧ Ext F as H F' as H ∧ Den X.K F' d u := by
  cases v with
  | dat d' => simp only [toD] at h; cases h; exact ⟨F, r, r.refl, q⟩
  | bor d' => simp [toD] at h
  | ref l =>
    simp only [toD] at h
    obtain ⟨d', hd, e⟩ := omap h
    cases e
    obtain ⟨o, ho, hf⟩ := obnd hd
    obtain ⟨a, ea, rfl⟩ := q
    obtain ⟨_, hb, e1, e2⟩ := r.obj l a o ea ho
    have nd : o ≠ .dead := fun z => by subst z; simp [fzO] at hf
    obtain ⟨r', x'⟩ := r.toRSt.freeze ea ho nd e1
    refine ⟨_, r.slots x' r', x', ?_⟩
    have hm : ∀ b x, F b = some x → (upd F a hb) b = some x := x'.ff
    cases o with
    | lst ds => simp only [fzO] at hf; cases hf; obtain ⟨us, rfl, b⟩ := e2; exact Den.lst_iff.mpr ⟨a, us, rfl, upd_same, Dens.mono hm _ _ b⟩
    | dK ks ds => simp only [fzO] at hf; cases hf; obtain ⟨us, rfl, l, b⟩ := e2; exact Den.dK_iff.mpr ⟨a, us, rfl, .inl upd_same, l, Dens.mono hm _ _ b⟩
    | dT ks ds => simp only [fzO] at hf; cases hf; obtain ⟨us, rfl, l, b⟩ := e2; exact Den.dT_iff.mpr ⟨a, us, rfl, .inl upd_same, l, Dens.mono hm _ _ b⟩
    | ins _ _ => simp [fzO] at hf
    | dead => simp [fzO] at hf
theorem toDs_ok : ∀ {vs : List Val} {us : List V} {F : Hp} {st : Sto} {ds : List D} {st' : Sto}, Rel X.K cs F B as env st σ H → toDs vs st = some (ds, st') → Paired (VOk X.K F B as) vs us → ∃ F', Rel X.K cs F' B as env st' σ H ∧ Ext F as H F' as H ∧ Dens X.K F' ds us
  | [], _, F, st, ds, st', r, h, .nil => by simp only [toDs] at h; cases h; exact ⟨F, r, r.refl, Dens.nil.mpr rfl⟩
  | v :: vs, _, F, st, ds, st', r, h, .cons (b := u) (l₂ := us) q qs => by
    simp only [toDs] at h
    obtain ⟨⟨d, s1⟩, h1, h⟩ := obnd h
    obtain ⟨⟨es, s2⟩, h2, h⟩ := omap h
    cases h
    obtain ⟨F1, r1, x1, q1⟩ := toD_ok r h1 q
    obtain ⟨F2, r2, x2, q2⟩ := toDs_ok r1 h2 (Paired.mapP qs fun a b z => z.ext x1)
    exact ⟨F2, r2, x1.trans x2, Dens.cons.mpr ⟨u, us, rfl, Den.mono x2.ff _ _ q1, q2⟩⟩
end
def fTup (g : Env → Sto → Option (List Val × Sto)) : Env → Sto → Option (Val × Sto) := fun env st => (g env st).bind fun r => (toDs r.1 r.2).map fun q => (.dat (.tup q.1), q.2)
theorem Paired.len {α β : Type} {R : α → β → Prop} {xs : List α} {ys : List β} (h : Paired R xs ys) : xs.length = ys.length := Paired.length h
theorem s_tup {x1 : Nat} (h : PA X es (tEs X.K cs g)) (hl : ∀ env st vs st', g env st = some (vs, st') → vs.length ≤ LIM) : PE X (.Tuple es x1 pos) (tE X.K cs (fTup g)) := (pe_tup h).weak fun σ H Q ⟨F, B, as, env, st, v, st', r, ev, k⟩ => by
  obtain ⟨⟨vs, s1⟩, e1, ev1⟩ := obnd ev
  obtain ⟨⟨ds, s2⟩, e2, ev2⟩ := omap ev1
  cases ev2
  refine ⟨F, B, as, env, st, vs, s1, r, e1, fun F1 as1 H1 us r1 x1 v1 => ⟨by rw [← line_eq, ← Paired.len v1]; exact hl _ _ _ _ e1, fun p hp => ?_⟩⟩
  obtain ⟨F2, r2, x2, q2⟩ := toDs_ok r1 e2 v1
  obtain ⟨r3, x3, v3⟩ := r2.put (d := .tup ds) (o := .tup us) hp fun F' hf h2 => Den.tup_iff.mpr ⟨p, us, rfl, h2, Dens.mono hf _ _ q2⟩
  exact k _ as1 _ _ r3 ((x1.trans x2).trans x3) v3
/-! ### subscripts -/
theorem at_ok {K : PySem.W.Frag} {F : Hp} {ds : List D} {us : List V} {i : Int} {d : D} (h : at? ds i = some d) (q : Dens K F ds us) : ∃ u, atI us i = some u ∧ Den K F d u := by
  obtain ⟨j, hj, hd⟩ := obnd h
  obtain ⟨u, hu, q'⟩ := q.get hd
  refine ⟨u, ?_, q'⟩
  unfold atI
  rw [q.length, show ixN ds.length i = some j from hj]
  exact hu
theorem at_eq {α : Type} (xs : List α) (i : Int) : at? xs i = atI xs i := rfl
def fIdx (f1 f2 : Env → Sto → Option (Val × Sto)) : Env → Sto → Option (Val × Sto) := fun env st => (f1 env st).bind fun r => (f2 env r.2).bind fun q => (idxV r.1 q.1 q.2).map fun d => (.dat d, q.2)
theorem s_idx (hu : X.A.units + 200 < cLine) (h1 : PE X e1 (tE X.K cs f1)) (h2 : PE X e2 (tE X.K cs f2)) (hs : nSlice e2 = true) : PE X (.Subscript e1 e2 pos) (tE X.K cs (fIdx f1 f2)) := by
  have pi : PlainIx e2 := fun o i => by cases e2 <;> first | rfl | simp [nSlice] at hs
  refine ⟨fun pins s σ H Q I h => ?_⟩
  obtain ⟨F, B, as, env, st, v, st', r, ev, k⟩ := h
  obtain ⟨⟨x, st1⟩, ha, ev1⟩ := obnd ev
  obtain ⟨⟨y, st2⟩, hb, ev2⟩ := obnd ev1
  obtain ⟨d, hd, ev3⟩ := omap ev2
  clear ev ev1 ev2
  cases ev3
  dsimp only at hd ha hb k
  have go : ∀ {R : R2}, IxR X R → (∀ F' as' H' u w, Rel X.K cs F' B as' env st2 σ H' → Ext F as H F' as' H' → VOk X.K F' B as' x u → VOk X.K F' B as' y w → R u w H' Q) →
      wpAny (model X.prog X.w) X.A (eval (.Subscript e1 e2 pos) X.env) (EP X pins σ Q) X.xe s := fun hR hk =>
    (pe_ix hR h1 h2 pi).run pins s σ H Q I (two r ha hb hk)
  have goD : (∀ F' as' H' u w, Rel X.K cs F' B as' env st2 σ H' → Ext F as H F' as' H' → VOk X.K F' B as' x u → VOk X.K F' B as' y w → ∃ a v, u = .ref a ∧ DGet H' a w (some v) ∧ Q v H') →
      wpAny (model X.prog X.w) X.A (eval (.Subscript e1 e2 pos) X.env) (EP X pins σ Q) X.xe s := fun hk =>
    (pe_dget (by omega) h1 h2 pi).run pins s σ H Q I (two (R := fun u w H' Q => ∃ a v, u = .ref a ∧ DGet H' a w (some v) ∧ Q v H') r ha hb hk)
  unfold idxV at hd
  split at hd
  · refine go ix_tup fun F' as' H' u w r' x' v1 v2 => ?_
    obtain ⟨p, us, rfl, hp, hq⟩ := Den.tup_iff.mp v1
    obtain ⟨z, hz, qz⟩ := at_ok hd hq
    exact ⟨p, us, _, z, rfl, int_of v2, .of (r'.fh _ _ hp), hz, k F' as' H' _ r' x' qz⟩
  · rename_i w0 k0
    split at hd
    · rename_i hl
      obtain ⟨c, hc, e⟩ := omap hd
      cases e
      exact go ix_str fun F' as' H' u w r' x' v1 v2 => ⟨S w0, k0, c, str_of v1, int_of v2, by rw [S_len, ← line_eq]; exact hl, by rw [S_cps]; exact hc, k F' as' H' _ r' x' vstr⟩
    · cases hd
  · split at hd
    · rename_i ds hs'
      split at hd
      · refine go ix_list fun F' as' H' u w r' x' v1 v2 => ?_
        obtain ⟨p, us, rfl, hp, hq⟩ := top_lst r'.toRSt hs' v1
        obtain ⟨z, hz, qz⟩ := at_ok hd hq
        exact ⟨p, us, _, z, rfl, int_of v2, .of hp, hz, k F' as' H' _ r' x' qz⟩
      · cases hd
    · rename_i ns hs'
      split at hd
      · obtain ⟨m, hm, e⟩ := omap hd
        cases e
        refine go ix_list fun F' as' H' u w r' x' v1 v2 => ?_
        obtain ⟨p, rfl, hp⟩ := top_scr r'.toRSt hs' v1
        refine ⟨p, _, _, .int m, rfl, int_of v2, hp, ?_, k F' as' H' _ r' x' vint⟩
        obtain ⟨j, hj, hd'⟩ := obnd hm
        unfold atI
        rw [List.length_map, show ixN ns.length _ = some j from hj]
        show (List.map V.int ns)[j]? = _
        rw [List.getElem?_map, hd']; rfl
      · cases hd
    · rename_i ks ds hs'
      obtain ⟨k0, hk0, hd'⟩ := obnd hd
      refine goD fun F' as' H' u w r' x' v1 v2 => ?_
      obtain ⟨a, o, rfl, g, z⟩ := get_dK r'.toRSt hs' v1 hk0 v2
      rcases z with ⟨d', x0, e1, e2, e3⟩ | ⟨e1, _⟩
      · rw [hd'] at e1; cases e1
        subst e2
        exact ⟨a, x0, rfl, g, k F' as' H' _ r' x' e3⟩
      · rw [hd'] at e1; cases e1
    · rename_i ks ds hs'
      obtain ⟨k0, hk0, hd'⟩ := obnd hd
      refine goD fun F' as' H' u w r' x' v1 v2 => ?_
      obtain ⟨a, o, rfl, g, z⟩ := get_dT r'.toRSt hs' v1 hk0 v2
      rcases z with ⟨d', x0, e1, e2, e3⟩ | ⟨e1, _⟩
      · rw [hd'] at e1; cases e1
        subst e2
        exact ⟨a, x0, rfl, g, k F' as' H' _ r' x' e3⟩
      · rw [hd'] at e1; cases e1
    · cases hd
  · cases hd
end
end NK
set_option Elab.async false
set_option linter.all false
set_option autoImplicit false
set_option maxRecDepth 100000
/-! NkH: slices, calls of own functions. -/
namespace NK
open PySem PySem.Spec PyProof.Rows L2
section
variable {X : Cx} {cs : Nat → Option Addr} {e e1 e2 e3 : Expr} {es : List Expr} {f f1 f2 f3 : Env → Sto → Option (Val × Sto)} {g : Env → Sto → Option (List Val × Sto)} {pos : Pos}
/-! ### slices -/
theorem sIx_eq (n d : Nat) (o : Option Int) : sIx n d o = HT.sIx n d o := by cases o <;> rfl
theorem s_po0 : PO X none (tP X.K cs fun _ st => some (none, st)) := po_none.weak fun σ H Q ⟨F, B, as, env, st, v, st', r, ev, k⟩ => by
  cases ev
  exact k F as H r r.refl
theorem s_po1 (h : PE X e (tE X.K cs f)) : PO X (some e) (tP X.K cs fun env st => (f env st).bind fun r => (intOf r.1).map fun i => (some i, r.2)) := (po_some h).weak fun σ H Q ⟨F, B, as, env, st, v, st', r, ev, k⟩ => by
  obtain ⟨⟨x, s1⟩, e1, ev1⟩ := obnd ev
  obtain ⟨i, hi, ev2⟩ := omap ev1
  cases ev2
  refine ⟨F, B, as, env, st, x, s1, r, e1, fun F' as' H' u r' x' v1 => ?_⟩
  unfold intOf at hi
  split at hi
  · cases hi
    rename_i hx
    dsimp only at hx
    subst hx
    exact ⟨_, int_of v1, k F' as' H' r' x'⟩
  · cases hi
theorem cut_dens {K : PySem.W.Frag} {F : Hp} {ds : List D} {us : List V} (lo hi : Option Int) (q : Dens K F ds us) : Dens K F (cutL ds lo hi) (cutV us lo hi) := by
  unfold cutL cutV
  rw [sIx_eq, sIx_eq, q.length]
  exact (q.drop _).take _
theorem cutL_le {α : Type} (xs : List α) (lo hi : Option Int) : (cutL xs lo hi).length ≤ xs.length := by
  unfold cutL
  rw [List.length_take, List.length_drop]
  omega
theorem cut_all {α : Type} {xs : List α} {lo hi : Option Int} (h : HT.sIx xs.length 0 lo = 0 ∧ HT.sIx xs.length xs.length hi = xs.length) : cutL xs lo hi = xs := by
  unfold cutL
  rw [sIx_eq, sIx_eq, h.1, h.2]
  simp
def fSlc (f : Env → Sto → Option (Val × Sto)) (l h : Env → Sto → Option (Option Int × Sto)) : Env → Sto → Option (Val × Sto) := fun env st => (f env st).bind fun r => (l env r.2).bind fun l => (h env l.2).bind fun h => (slcV r.1 l.1 h.1 h.2).map fun d => (.dat d, h.2)
theorem s_slc {lo hi : Option Expr} {p2 : Pos} {l h : Env → Sto → Option (Option Int × Sto)} (h1 : PE X e (tE X.K cs f)) (hl : PO X lo (tP X.K cs l)) (hh : PO X hi (tP X.K cs h)) : PE X (.Subscript e (.Slice lo hi none p2) pos) (tE X.K cs (fSlc f l h)) := by
  refine ⟨fun pins s σ H Q I hw => ?_⟩
  obtain ⟨F, B, as, env, st, v, st', r, ev, k⟩ := hw
  obtain ⟨⟨x, st1⟩, ha, ev1⟩ := obnd ev
  obtain ⟨⟨lv, st2⟩, hb, ev2⟩ := obnd ev1
  obtain ⟨⟨hv, st3⟩, hc, ev3⟩ := obnd ev2
  obtain ⟨d, hd, ev4⟩ := omap ev3
  clear ev ev1 ev2 ev3
  cases ev4
  dsimp only at ha hb hc hd k
  have go : ∀ {R : V → Option Int → Option Int → Hp → VK → Prop}, SlR X R → (∀ F' as' H' u, Rel X.K cs F' B as' env st3 σ H' → Ext F as H F' as' H' → VOk X.K F' B as' x u → R u lv hv H' Q) →
      wpAny (model X.prog X.w) X.A (eval (.Subscript e (.Slice lo hi none p2) pos) X.env) (EP X pins σ Q) X.xe s := fun hR hk =>
    (pe_slice hR h1 hl hh).run pins s σ H Q I ⟨F, B, as, env, st, x, st1, r, ha, fun F1 as1 H1 u r1 x1 v1 => ⟨F1, B, as1, env, st1, lv, st2, r1, hb, fun F2 as2 H2 r2 x2 => ⟨F2, B, as2, env, st2, hv, st3, r2, hc, fun F3 as3 H3 r3 x3 =>
      hk F3 as3 H3 u r3 ((x1.trans x2).trans x3) ((v1.ext x2).ext x3)⟩⟩⟩
  unfold slcV at hd
  split at hd
  · rename_i ds
    cases hd
    refine go sl_tupA fun F' as' H' u r' x' v1 => ?_
    obtain ⟨p, us, rfl, hp, hq⟩ := Den.tup_iff.mp v1
    refine ⟨p, us, rfl, .of (r'.fh _ _ hp), fun hw => ?_, fun _ t ht => ?_⟩
    · rw [hq.length] at hw
      exact k F' as' H' _ r' x' (by rw [cut_all hw]; exact v1)
    · obtain ⟨r2, x2, v2⟩ := r'.put (d := .tup (cutL ds lv hv)) (o := .tup (cutV us lv hv)) ht fun F2 hf h2 => Den.tup_iff.mpr ⟨t, _, rfl, h2, cut_dens lv hv (Dens.mono hf _ _ hq)⟩
      exact k _ as' _ _ r2 (x'.trans x2) v2
  · rename_i w0
    split at hd
    · rename_i hw
      cases hd
      refine go sl_str fun F' as' H' u r' x' v1 => ⟨S w0, str_of v1, by rw [S_len, ← line_eq]; exact hw, ?_⟩
      have e : cutS (S w0) lv hv = S (cutL w0 lv hv) := by
        unfold cutS cutL S
        simp only [Str.length, sIx_eq, List.size_toArray]
      rw [e]
      exact k F' as' H' _ r' x' vstr
    · cases hd
  · obtain ⟨ds, hs, e⟩ := omap hd
    cases e
    refine go sl_list fun F' as' H' u r' x' v1 => ?_
    obtain ⟨p, us, rfl, hp, hq⟩ := asL_ok r'.toRSt hs v1
    refine ⟨p, us, rfl, hp, fun t ht => ?_⟩
    obtain ⟨r2, x2, v2⟩ := r'.put (d := .lst (cutL ds lv hv)) (o := .lst (cutV us lv hv)) ht fun F2 hf h2 => Den.lst_iff.mpr ⟨t, _, rfl, h2, cut_dens lv hv (Dens.mono hf _ _ hq)⟩
    exact k _ as' _ _ r2 (x'.trans x2) v2
/-! ### a function's promise -/
def RetOk (K : PySem.W.Frag) (cs : Nat → Option Addr) (F' B : Hp) (as : List Addr) (H : Hp) (H' : Hp) : Ret → V → Prop
  | .dat d, u => Den K F' d u
  | .own o, u => ∃ p ho, u = .ref p ∧ H p = none ∧ F' p = none ∧ H' p = some ho ∧ flat o = true ∧ o ≠ .dead ∧ OOk K cs F' B as o ho
  | .val _, _ => False
def spF (K : PySem.W.Frag) (cs : Nat → Option Addr) (n : Nat) (fn : List Val → Sto → Option (Ret × Sto)) : Sp := fun vs H Q _ => ∃ F B as args st r st', RSt K cs F B as st H ∧ Paired (VOk K F B as) args vs ∧ args.length = n ∧ fn args st = some (r, st') ∧
  ∀ F' H' u, RSt K cs F' B as st' H' → Ext F as H F' as H' → RetOk K cs F' B as H H' r u → Q u H'
theorem spF_len {K : PySem.W.Frag} {n : Nat} {fn : List Val → Sto → Option (Ret × Sto)} {vs : List V} {H : Hp} {Q : VK} {E : XK} (h : spF K cs n fn vs H Q E) : vs.length = n := by
  obtain ⟨F, B, as, args, st, r, st', _, p, l, _⟩ := h
  rw [← l]; exact (Paired.len p).symm
theorem flat_ook {K : PySem.W.Frag} {F B B' : Hp} {as as' : List Addr} {o : Obj} {ho : HO} (h : flat o = true) (q : OOk K cs F B as o ho) : OOk K cs F B' as' o ho := by
  cases o <;> first | exact q | simp [flat] at h
section
variable {F B H : Hp} {as : List Addr} {env : Env} {st : Sto} {σ : L2.St}
theorem takeSt_len : ∀ {ls : List Nat} {os : Sto}, takeSt st ls = some os → os.length = ls.length
  | [], os, h => by simp only [takeSt] at h; cases h; rfl
  | l :: ls, os, h => by
    simp only [takeSt] at h
    obtain ⟨o, ho, h⟩ := obnd h
    split at h
    · obtain ⟨os', h', e⟩ := omap h
      cases e
      simp [takeSt_len h']
    · cases h
theorem takeSt_get : ∀ {ls : List Nat} {os : Sto} {j : Nat} {l : Nat}, takeSt st ls = some os → ls[j]? = some l → ∃ o, os[j]? = some o ∧ st[l]? = some o ∧ flat o = true
  | [], os, j, l, h, e => by simp at e
  | l :: ls, os, j, l', h, e => by
    simp only [takeSt] at h
    obtain ⟨o, ho, h⟩ := obnd h
    split at h
    · rename_i hf
      obtain ⟨os', h', e'⟩ := omap h
      cases e'
      cases j with
      | zero => simp at e; subst e; exact ⟨o, rfl, ho, hf⟩
      | succ j =>
        obtain ⟨o', a, b, c⟩ := takeSt_get (j := j) h' (by simpa using e)
        exact ⟨o', by simpa using a, b, c⟩
    · cases h
theorem backSt_len : ∀ {ls : List Nat} {os st : Sto}, (backSt st ls os).length = st.length
  | [], os, st => by cases os <;> rfl
  | l :: ls, [], st => rfl
  | l :: ls, o :: os, st => by show (backSt (st.set l o) ls os).length = _; rw [backSt_len, List.length_set]
theorem backSt_out : ∀ {ls : List Nat} {os st : Sto} {l : Nat}, l ∉ ls → (backSt st ls os)[l]? = st[l]?
  | [], os, st, l, _ => by cases os <;> rfl
  | k :: ls, [], st, l, _ => rfl
  | k :: ls, o :: os, st, l, h => by
    show (backSt (st.set k o) ls os)[l]? = _
    rw [backSt_out (fun z => h (List.mem_cons_of_mem _ z)), List.getElem?_set_ne (fun z => h (by rw [z]; exact List.mem_cons_self))]
theorem backSt_in : ∀ {ls : List Nat} {os st : Sto} {j l : Nat}, ls.Nodup → os.length = ls.length → (∀ l ∈ ls, l < st.length) → ls[j]? = some l → (backSt st ls os)[l]? = os[j]?
  | [], os, st, j, l, _, _, _, e => by simp at e
  | k :: ls, [], st, j, l, _, hl, _, e => by simp at hl
  | k :: ls, o :: os, st, 0, l, nd, hl, hb, e => by
    simp at e; subst e
    show (backSt (st.set k o) ls os)[k]? = some o
    rw [backSt_out (List.nodup_cons.mp nd).1, List.getElem?_set_self (hb k List.mem_cons_self)]
  | k :: ls, o :: os, st, j + 1, l, nd, hl, hb, e => by
    show (backSt (st.set k o) ls os)[l]? = os[j]?
    exact backSt_in (List.nodup_cons.mp nd).2 (by simpa using hl) (fun x hx => by rw [List.length_set]; exact hb x (List.mem_cons_of_mem _ hx)) (by simpa using e)
/-- the places' addresses -/
def adrs (as : List Addr) (ls : List Nat) : List Addr := ls.filterMap fun l => as[l]?
theorem adrs_cons {l : Nat} {ls : List Nat} {a : Addr} (h : as[l]? = some a) : adrs as (l :: ls) = a :: adrs as ls := by
  unfold adrs
  rw [List.filterMap_cons, h]
theorem adrs_get : ∀ {ls : List Nat} {j l : Nat}, (∀ l ∈ ls, l < as.length) → ls[j]? = some l → (adrs as ls)[j]? = as[l]?
  | [], j, l, _, e => by simp at e
  | k :: ls, j, l, h, e => by
    have hk := h k List.mem_cons_self
    rw [adrs_cons (List.getElem?_eq_getElem hk)]
    cases j with
    | zero => simp at e; subst e; rw [List.getElem?_eq_getElem hk]; rfl
    | succ j => simpa using adrs_get (j := j) (fun x hx => h x (List.mem_cons_of_mem _ hx)) (by simpa using e)
theorem adrs_mem {ls : List Nat} {a : Addr} (h : a ∈ adrs as ls) : ∃ l ∈ ls, as[l]? = some a := List.mem_filterMap.mp h
theorem adrs_len : ∀ {ls : List Nat}, (∀ l ∈ ls, l < as.length) → (adrs as ls).length = ls.length
  | [], _ => rfl
  | k :: ls, h => by
    rw [adrs_cons (List.getElem?_eq_getElem (h k List.mem_cons_self))]
    simp [adrs_len fun x hx => h x (List.mem_cons_of_mem _ hx)]
theorem adrs_nodup (nd : as.Nodup) : ∀ {ls : List Nat}, ls.Nodup → (adrs as ls).Nodup
  | [], _ => List.nodup_nil
  | k :: ls, h => by
    have ih := adrs_nodup nd (List.nodup_cons.mp h).2
    cases e : as[k]? with
    | none => unfold adrs; rw [List.filterMap_cons, e]; exact ih
    | some a =>
      rw [adrs_cons e]
      refine List.nodup_cons.mpr ⟨fun hm => ?_, ih⟩
      obtain ⟨l, hl, e2⟩ := adrs_mem hm
      exact (List.nodup_cons.mp h).1 (by rw [nd_ix nd e e2]; exact hl)
/-- what is lent, too -/
def lend (B H : Hp) (as : List Addr) (bor : List Nat) : Hp := fun a => if a ∈ adrs as bor then H a else B a
theorem lend_mono (r : RSt X.K cs F B as st H) {bor : List Nat} : ∀ a o, B a = some o → lend B H as bor a = some o := fun a o h => by
  unfold lend
  split
  · exact r.bh _ _ h
  · exact h
theorem Top.lend {B' : Hp} (h : ∀ a o, B a = some o → B' a = some o) {d : D} {u : V} (q : Top X.K B F d u) : Top X.K B' F d u := by
  cases d <;> first | exact q.elim | skip
  · obtain ⟨p, us, e, a, b⟩ := q; exact ⟨p, us, e, h _ _ a, b⟩
  · obtain ⟨p, us, e, a, l, b⟩ := q; exact ⟨p, us, e, rd_mono h a, l, b⟩
  · obtain ⟨p, us, e, a, l, b⟩ := q; exact ⟨p, us, e, rd_mono h a, l, b⟩
theorem prep_ok (r : RSt X.K cs F B as st H) {B' : Hp} {asc : List Addr} (hB : ∀ a o, B a = some o → B' a = some o) : ∀ {m : List Bool} {vs : List Val} {us : List V} {n : Nat} {args : List Val} {imp bor : List Nat}, prep st n m vs = some (args, imp, bor) → Paired (VOk X.K F B as) vs us →
    (∀ j l, imp[j]? = some l → asc[n + j]? = as[l]?) → (∀ l ∈ bor, ∀ a, as[l]? = some a → B' a = H a) → Paired (VOk X.K F B' asc) args us
  | [], [], _, n, args, imp, bor, h, .nil, _, _ => by simp only [prep] at h; cases h; exact .nil
  | b :: m, .dat d :: vs, _, n, args, imp, bor, h, .cons q qs, h1, h2 => by
    have h : ((prep st n m vs).map fun r => (Val.dat d :: r.1, r.2.1, r.2.2)) = some (args, imp, bor) := by cases b <;> simpa only [prep] using h
    obtain ⟨⟨a', i', b'⟩, h', e⟩ := omap h
    cases e
    exact .cons q (prep_ok r hB h' qs h1 h2)
  | b :: m, .bor d :: vs, _, n, args, imp, bor, h, .cons q qs, h1, h2 => by
    have h : ((prep st n m vs).map fun r => (Val.bor d :: r.1, r.2.1, r.2.2)) = some (args, imp, bor) := by cases b <;> simpa only [prep] using h
    obtain ⟨⟨a', i', b'⟩, h', e⟩ := omap h
    cases e
    exact .cons (Top.lend hB q) (prep_ok r hB h' qs h1 h2)
  | true :: m, .ref l :: vs, _, n, args, imp, bor, h, .cons q qs, h1, h2 => by
    simp only [prep] at h
    obtain ⟨⟨a', i', b'⟩, h', e⟩ := omap h
    cases e
    obtain ⟨a, ea, rfl⟩ := q
    refine .cons ⟨a, ?_, rfl⟩ (prep_ok r hB h' qs (fun j k hj => ?_) h2)
    · have := h1 0 l rfl
      simpa [ea] using this
    · have := h1 (j + 1) k (by simpa using hj)
      rw [show n + 1 + j = n + (j + 1) by omega]; exact this
  | false :: m, .ref l :: vs, _, n, args, imp, bor, h, .cons q qs, h1, h2 => by
    simp only [prep] at h
    obtain ⟨d, hd, h⟩ := obnd h
    obtain ⟨⟨a', i', b'⟩, h', e⟩ := omap h
    cases e
    obtain ⟨a, ea, rfl⟩ := q
    obtain ⟨o, ho, hf⟩ := obnd hd
    obtain ⟨_, hb, e1, e2⟩ := r.obj l a o ea ho
    have eb : B' a = some hb := by rw [h2 l List.mem_cons_self a ea]; exact e1
    refine .cons ?_ (prep_ok r hB h' qs h1 fun l' hl => h2 l' (List.mem_cons_of_mem _ hl))
    cases o with
    | lst ds => simp only [fzO] at hf; cases hf; obtain ⟨us, rfl, b⟩ := e2; exact ⟨a, us, rfl, eb, b⟩
    | dK ks ds => simp only [fzO] at hf; cases hf; obtain ⟨us, rfl, l, b⟩ := e2; exact ⟨a, us, rfl, .inl eb, l, b⟩
    | dT ks ds => simp only [fzO] at hf; cases hf; obtain ⟨us, rfl, l, b⟩ := e2; exact ⟨a, us, rfl, .inl eb, l, b⟩
    | ins _ _ => simp [fzO] at hf
    | dead => simp [fzO] at hf
  | [], _ :: _, _, n, args, imp, bor, h, _, _, _ => by simp [prep] at h
  | _ :: _, [], _, n, args, imp, bor, h, _, _, _ => by simp [prep] at h
theorem RSt.lt (r : RSt X.K cs F B as st H) {l : Nat} {o : Obj} (h : st[l]? = some o) : l < as.length := by
  rw [r.len]; exact (List.getElem?_eq_some_iff.mp h).1
/-- the store that a callee is handed -/
theorem handed (r : RSt X.K cs F B as st H) {imp bor : List Nat} {os : Sto} (ht : takeSt st imp = some os) (hn : imp.Nodup) (hb : ∀ x ∈ bor, x ∉ imp) : RSt X.K cs F (lend B H as bor) (adrs as imp) os H := by
  have lt : ∀ l ∈ imp, l < as.length := fun l hl => by
    obtain ⟨j, hj, e⟩ := List.mem_iff_getElem.mp hl
    obtain ⟨o, _, ho, _⟩ := takeSt_get ht (by rw [List.getElem?_eq_getElem hj, e] : imp[j]? = some l)
    exact r.lt ho
  refine ⟨r.fh, fun a o h => ?_, adrs_nodup r.nd hn, by rw [adrs_len lt, takeSt_len ht], fun a ha => ?_, fun j a o e1 e2 => ?_⟩
  · unfold lend at h
    split at h
    · exact h
    · exact r.bh _ _ h
  · obtain ⟨l, hl, e⟩ := adrs_mem ha
    unfold lend
    rw [if_neg]
    · exact r.nb a (List.mem_of_getElem? e)
    · intro hm
      obtain ⟨l', hl', e'⟩ := adrs_mem hm
      rw [nd_ix r.nd e' e] at hl'
      exact hb l hl' hl
  · have hj : j < imp.length := by rw [← takeSt_len ht]; exact (List.getElem?_eq_some_iff.mp e2).1
    have el := List.getElem?_eq_getElem hj
    obtain ⟨o', h1, h2, h3⟩ := takeSt_get ht el
    rw [e2] at h1; cases h1
    rw [adrs_get lt el] at e1
    obtain ⟨z, ho, e3, e4⟩ := r.obj _ a o e1 h2
    exact ⟨z, ho, e3, flat_ook h3 e4⟩
/-- behind the call -/
theorem taken (r : RSt X.K cs F B as st H) {imp bor : List Nat} {os os' : Sto} (ht : takeSt st imp = some os) (hn : imp.Nodup) {F' H' : Hp} (r' : RSt X.K cs F' (lend B H as bor) (adrs as imp) os' H') (x' : Ext F (adrs as imp) H F' (adrs as imp) H') (hf : os'.all flat = true) (hl : os'.length = os.length) :
    RSt X.K cs F' B as (backSt st imp os') H' ∧ Ext F as H F' as H' := by
  have lt : ∀ l ∈ imp, l < as.length := fun l hl => by
    obtain ⟨j, hj, e⟩ := List.mem_iff_getElem.mp hl
    obtain ⟨o, _, ho, _⟩ := takeSt_get ht (by rw [List.getElem?_eq_getElem hj, e] : imp[j]? = some l)
    exact r.lt ho
  have sub : ∀ {a}, a ∈ adrs as imp → a ∈ as := fun h => let ⟨l, _, e⟩ := adrs_mem h; List.mem_of_getElem? e
  have fr : ∀ a o, H a = some o → a ∉ adrs as imp → H' a = some o := x'.fr
  refine ⟨⟨r'.fh, fun a o h => ?_, r.nd, by rw [backSt_len]; exact r.len, r.nb, fun l a o e1 e2 => ?_⟩, ⟨x'.ff, List.prefix_refl _, fun a o h hn => fr a o h fun z => hn (sub z), fun a ha => ?_, fun a h h0 => (x'.nf a h h0).imp id sub, fun a h h0 => absurd h h0⟩⟩
  · refine fr a o (r.bh _ _ h) fun z => ?_
    rw [r.nb a (sub z)] at h; cases h
  · by_cases hm : l ∈ imp
    · obtain ⟨j, hj, e⟩ := List.mem_iff_getElem.mp hm
      have ej : imp[j]? = some l := by rw [List.getElem?_eq_getElem hj, e]
      rw [backSt_in hn (by rw [hl, takeSt_len ht]) (fun x hx => by rw [← r.len]; exact lt x hx) ej] at e2
      obtain ⟨z, ho, e3, e4⟩ := r'.obj j a o (by rw [adrs_get lt ej]; exact e1) e2
      exact ⟨z, ho, e3, flat_ook (List.all_eq_true.mp hf o (List.mem_of_getElem? e2)) e4⟩
    · rw [backSt_out hm] at e2
      obtain ⟨z, ho, e3, e4⟩ := r.obj l a o e1 e2
      have na : a ∉ adrs as imp := fun h => by
        obtain ⟨l', hl', e'⟩ := adrs_mem h
        rw [nd_ix r.nd e' e1] at hl'
        exact hm hl'
      refine ⟨z.imp id fun z => ?_, ho, fr _ _ e3 na, e4.mono x'.ff (List.prefix_refl _)⟩
      cases q : F' a with
      | none => rfl
      | some y =>
        rcases x'.nf a (by rw [q]; simp) z with w | w
        · rw [e3] at w; cases w
        · exact absurd w na
  · cases q : H a with
    | none => exact absurd q (r.there a ha)
    | some o =>
      by_cases hm : a ∈ adrs as imp
      · exact x'.frA a hm
      · rw [fr a o q hm]; simp
/-- a new list or dict that a callee hands back: kept as data -/
theorem RSt.fz (r : RSt X.K cs F B as st H) {F0 H0 : Hp} {as0 : List Addr} (x : Ext F0 as0 H0 F as H) {p : Addr} {ho : HO} (h0 : H0 p = none) (hF : F p = none) (hH : H p = some ho) (nas : p ∉ as) : RSt X.K cs (upd F p ho) B as st H ∧ Ext F0 as0 H0 (upd F p ho) as H := by
  have hff : ∀ a o, F a = some o → (upd F p ho) a = some o := fun a o h => by rw [upd_ne (by intro e; rw [e, hF] at h; cases h)]; exact h
  refine ⟨⟨fun a o h => ?_, r.bh, r.nd, r.len, r.nb, fun l a o e1 e2 => ?_⟩, ⟨fun a o h => hff _ _ (x.ff _ _ h), x.pre, x.fr, x.frA, fun a h h1 => ?_, x.na⟩⟩
  · by_cases e : a = p
    · subst e; rw [upd_same] at h; cases h; exact hH
    · rw [upd_ne e] at h; exact r.fh _ _ h
  · obtain ⟨z, h', e3, e4⟩ := r.obj l a o e1 e2
    have ne : a ≠ p := fun e => nas (e ▸ List.mem_of_getElem? e1)
    exact ⟨z.imp id fun z => by rw [upd_ne ne]; exact z, h', e3, e4.mono hff (List.prefix_refl _)⟩
  · by_cases e : a = p
    · subst e; exact .inl h0
    · rw [upd_ne e] at h; exact x.nf a h h1
/-- .. or taken as a place -/
theorem RSt.adopt (r : RSt X.K cs F B as st H) {F0 H0 : Hp} {as0 : List Addr} (x : Ext F0 as0 H0 F as H) {p : Addr} {o : Obj} {ho : HO} (h0 : H0 p = none) (hF : F p = none) (hB : B p = none) (hH : H p = some ho) (nas : p ∉ as) (ok : OOk X.K cs F B (as ++ [p]) o ho) :
    RSt X.K cs F B (as ++ [p]) (st ++ [o]) H ∧ Ext F0 as0 H0 F (as ++ [p]) H := by
  refine ⟨⟨r.fh, r.bh, ?_, by simp [r.len], fun a h => ?_, fun l a y e1 e2 => ?_⟩, ⟨x.ff, x.pre.trans (List.prefix_append _ _), x.fr, x.frA, x.nf, fun a h h1 => ?_⟩⟩
  · rw [List.nodup_append]
    exact ⟨r.nd, by simp, fun a h b h' e => by simp at h'; subst h'; subst e; exact nas h⟩
  · rcases List.mem_append.mp h with h | h
    · exact r.nb a h
    · simp at h; subst h; exact hB
  · by_cases hl : l < as.length
    · rw [List.getElem?_append_left hl] at e1
      rw [List.getElem?_append_left (by rw [← r.len]; exact hl)] at e2
      obtain ⟨z, h', e3, e4⟩ := r.obj l a y e1 e2
      exact ⟨z, h', e3, e4.mono (fun _ _ h => h) (List.prefix_append _ _)⟩
    · have hl1 : as.length ≤ l := by omega
      rw [List.getElem?_append_right hl1] at e1
      rw [List.getElem?_append_right (by rw [← r.len]; exact hl1)] at e2
      have h0 : l - as.length = 0 := by
        rcases Nat.eq_zero_or_pos (l - as.length) with h | h
        · exact h
        · rw [List.getElem?_eq_none (by simp; omega)] at e1; cases e1
      rw [h0] at e1
      rw [← r.len, h0] at e2
      simp at e1 e2
      subst e1; subst e2
      exact ⟨.inr hF, ho, hH, ok⟩
  · rcases List.mem_append.mp h with h | h
    · exact x.na a h h1
    · simp at h; subst h; exact h0
theorem frozen_den {o : Obj} {d : D} {p : Addr} {ho : HO} (hf : fzO o = some d) (q : OOk X.K cs F B as o ho) (hF : F p = none) : Den X.K (upd F p ho) d (.ref p) := by
  have hff : ∀ a o, F a = some o → (upd F p ho) a = some o := fun a o h => by rw [upd_ne (by intro e; rw [e, hF] at h; cases h)]; exact h
  cases o with
  | lst ds => simp only [fzO] at hf; cases hf; obtain ⟨us, rfl, b⟩ := q; exact Den.lst_iff.mpr ⟨p, us, rfl, upd_same, Dens.mono hff _ _ b⟩
  | dK ks ds => simp only [fzO] at hf; cases hf; obtain ⟨us, rfl, l, b⟩ := q; exact Den.dK_iff.mpr ⟨p, us, rfl, .inl upd_same, l, Dens.mono hff _ _ b⟩
  | dT ks ds => simp only [fzO] at hf; cases hf; obtain ⟨us, rfl, l, b⟩ := q; exact Den.dT_iff.mpr ⟨p, us, rfl, .inl upd_same, l, Dens.mono hff _ _ b⟩
  | ins _ _ => simp [fzO] at hf
  | dead => simp [fzO] at hf
end
/-! ### a call -/
/-- a function of the text, as a context sees it: at level d its promise is fn's -/
structure FnAt (X : Cx) (cs : Nat → Option Addr) (d : Nat) (n : Nat) (x : Str) (fn : List Val → Sto → Option (Ret × Sto)) : Prop where
  ex : ∃ (fa : Addr) (fd : FuncData) (ps : List Str), X.mg x = some (.ref fa) ∧ PySem.W.keepIn X.K (.ref fa) = true ∧ Binds X.K fd ps [] ∧ FnOk X.prog X.w X.K X.mg X.base CX0 d fa fd ps (spF X.K cs n fn)
def fCallV (C : Calls) (i : Nat) (m : List Bool) (g : Env → Sto → Option (List Val × Sto)) : Env → Sto → Option ((Ret × Sto)) := fun env st => (g env st).bind fun r => callV C i m r.1 r.2
/-- what a call wants, whatever becomes of the new list -/
theorem call_of {C : Calls} {i : Nat} {m : List Bool} {n : Nat} {σ : L2.St} {H : Hp} {Q : VK} {E : XK} {F B : Hp} {as : List Addr} {env : Env} {st : Sto} {ret : Ret} {st' : Sto} (r : Rel X.K cs F B as env st σ H) (ev : fCallV C i m g env st = some (ret, st')) (hn : ∀ a s q, C i a s = some q → a.length = n)
    (k : ∀ F' as' H' u F0 H0 s0, Rel X.K cs F0 B as' env s0 σ H0 → Rel X.K cs F' B as' env st' σ H' → Ext F as H F0 as' H0 → Ext F0 as' H0 F' as' H' → RetOk X.K cs F' B as' H0 H' ret u → Q u H') : tCall (spF X.K cs n (C i)) [] E (tEs X.K cs g) σ H Q := by
  obtain ⟨⟨vs, s1⟩, e1, ev1⟩ := obnd ev
  unfold callV at ev1
  obtain ⟨⟨args, imp, bor⟩, hp, ev2⟩ := obnd ev1
  dsimp only at ev2
  split at ev2
  · rename_i hc
    obtain ⟨os, hos, ev3⟩ := obnd ev2
    obtain ⟨⟨ret', os'⟩, hC, ev4⟩ := obnd ev3
    dsimp only at ev4
    split at ev4
    · rename_i hz
      cases ev4
      rw [Bool.and_eq_true, decide_eq_true_eq] at hz
      refine ⟨F, B, as, env, st, vs, s1, r, e1, fun F1 as1 H1 us r1 x1 v1 => ?_⟩
      show spF X.K cs n (C i) (us ++ []) H1 Q E
      rw [List.append_nil]
      have lt : ∀ l ∈ imp, l < as1.length := fun l hl => by
        obtain ⟨j, hj, e⟩ := List.mem_iff_getElem.mp hl
        obtain ⟨o, _, ho, _⟩ := takeSt_get hos (by rw [List.getElem?_eq_getElem hj, e] : imp[j]? = some l)
        exact r1.toRSt.lt ho
      refine ⟨F1, lend B H1 as1 bor, adrs as1 imp, args, os, ret, os', handed r1.toRSt hos hc.1 hc.2, prep_ok r1.toRSt (lend_mono r1.toRSt) hp v1 (fun j l hj => ?_) (fun l hl a ha => ?_), hn _ _ _ hC, hC, fun F' H' u r' x' q => ?_⟩
      · rw [Nat.zero_add]; exact adrs_get lt hj
      · unfold lend
        exact if_pos (List.mem_filterMap.mpr ⟨l, hl, ha⟩)
      · obtain ⟨r2, x2⟩ := taken r1.toRSt hos hc.1 r' x' hz.1 hz.2
        refine k F' as1 H' u F1 H1 s1 r1 (r1.slots x2 r2) x1 x2 ?_
        cases ret with
        | dat d => exact q
        | own o =>
          obtain ⟨p, ho, e2, e3, e4, e5, e6, e7, e8⟩ := q
          exact ⟨p, ho, e2, e3, e4, e5, e6, e7, flat_ook e6 e8⟩
        | val v => exact q.elim
    · cases ev4
  · cases ev2
def frz (q : Ret × Sto) : Option (Val × Sto) := match q.1 with
  | .dat d => some (.dat d, q.2)
  | .own o => (fzO o).map fun d => (.dat d, q.2)
  | .val _ => none
def own (q : Ret × Sto) : Option (Val × Sto) := match q.1 with
  | .dat _ => none
  | .own o => some (.ref q.2.length, q.2 ++ [o])
  | .val _ => none
theorem frz_of {C : Calls} {i : Nat} {m : List Bool} {n : Nat} {E : XK} (hn : ∀ a s q, C i a s = some q → a.length = n) : ∀ σ H Q, tE X.K cs (fun env st => (fCallV C i m g env st).bind frz) σ H Q → tCall (spF X.K cs n (C i)) [] E (tEs X.K cs g) σ H Q := fun σ H Q ⟨F, B, as, env, st, v, st', r, ev, k⟩ => by
  obtain ⟨⟨ret, s1⟩, e1, ev1⟩ := obnd ev
  refine call_of r e1 hn fun F' as' H' u F0 H0 s0 r0 r' x0 x' q => ?_
  cases ret with
  | dat d =>
    cases ev1
    exact k F' as' H' u r' (x0.trans x') q
  | own o =>
    have ev1 : ((fzO o).map fun d => (Val.dat d, s1)) = some (v, st') := ev1
    obtain ⟨d, hd, e⟩ := omap ev1
    cases e
    obtain ⟨p, ho, rfl, h0, hF, hH, hf, nd, ok⟩ := q
    have nas : p ∉ as' := fun h => r0.toRSt.there p h h0
    obtain ⟨r2, x2⟩ := r'.toRSt.fz x' h0 hF hH nas
    exact k _ as' H' _ (r0.slots x2 r2) (x0.trans x2) (frozen_den hd ok hF)
  | val v => cases ev1
theorem own_of {C : Calls} {i : Nat} {m : List Bool} {n : Nat} {E : XK} (hn : ∀ a s q, C i a s = some q → a.length = n) : ∀ σ H Q, tE X.K cs (fun env st => (fCallV C i m g env st).bind own) σ H Q → tCall (spF X.K cs n (C i)) [] E (tEs X.K cs g) σ H Q := fun σ H Q ⟨F, B, as, env, st, v, st', r, ev, k⟩ => by
  obtain ⟨⟨ret, s1⟩, e1, ev1⟩ := obnd ev
  refine call_of r e1 hn fun F' as' H' u F0 H0 s0 r0 r' x0 x' q => ?_
  cases ret with
  | dat d => cases ev1
  | own o =>
    cases ev1
    obtain ⟨p, ho, rfl, h0, hF, hH, hf, nd, ok⟩ := q
    have nas : p ∉ as' := fun h => r0.toRSt.there p h h0
    have pB : B p = none := by
      cases z : B p with
      | none => rfl
      | some y => rw [r0.bh _ _ z] at h0; cases h0
    obtain ⟨r2, x2⟩ := r'.toRSt.adopt x' h0 hF pB hH nas (flat_ook hf ok)
    refine k _ (as' ++ [p]) H' _ (r0.slots x2 r2) (x0.trans x2) ⟨p, ?_, rfl⟩
    rw [show s1.length = as'.length from r'.len.symm, List.getElem?_append_right (Nat.le_refl _), Nat.sub_self]
    rfl
  | val v => cases ev1
/-- f(e, ..): what comes back is kept as data -/
theorem s_call {C : Calls} {i : Nat} {m : List Bool} {d n : Nat} {x : Str} {p : Pos} (hx : FnAt X cs d n x (C i)) (hn : ∀ a s q, C i a s = some q → a.length = n) (hr : Room d X.A) (hg : Gl X x) (ha : PA X (e :: es) (tEs X.K cs g)) (hd : (x == ("__debug__" : Str)) = false)
    (hs : starEach (e :: es) X.env = (false, eval e X.env) :: starEach es X.env) (ht : ((backTo pos (starEach es X.env)).any (·.1)) = false) : PE X (.Call (.Name x p) (e :: es) [] pos) (tE X.K cs fun env st => (fCallV C i m g env st).bind frz) := by
  obtain ⟨fa, fd, ps, h1, h2, h3, h4⟩ := hx.ex
  exact (pe_call h4 hr hg h1 h2 h3 .nil pass0 ha hd hs ht).weak (frz_of hn)
theorem s_callA {C : Calls} {i : Nat} {m : List Bool} {d n : Nat} {x : Str} {p : Pos} (hx : FnAt X cs d n x (C i)) (hn : ∀ a s q, C i a s = some q → a.length = n) (hr : Room d X.A) (hg : Gl X x) (ha : PA X (e :: es) (tEs X.K cs g)) (hd : (x == ("__debug__" : Str)) = false)
    (hs : starEach (e :: es) X.env = (false, eval e X.env) :: starEach es X.env) (ht : ((backTo pos (starEach es X.env)).any (·.1)) = false) : PE X (.Call (.Name x p) (e :: es) [] pos) (tE X.K cs fun env st => (fCallV C i m g env st).bind own) := by
  obtain ⟨fa, fd, ps, h1, h2, h3, h4⟩ := hx.ex
  exact (pe_call h4 hr hg h1 h2 h3 .nil pass0 ha hd hs ht).weak (own_of hn)
end
end NK
set_option Elab.async false
set_option linter.all false
set_option autoImplicit false
set_option maxRecDepth 100000
/-! NkI: new lists and dicts, what is walked, comprehensions. -/
namespace NK
open PySem PySem.Spec PyProof.Rows L2
section
variable {X : Cx} {cs : Nat → Option Addr} {e e1 e2 e3 : Expr} {es : List Expr} {f f1 f2 f3 : Env → Sto → Option (Val × Sto)} {g : Env → Sto → Option (List Val × Sto)} {pos : Pos}
section
variable {F B H : Hp} {as : List Addr} {env : Env} {st : Sto} {σ : L2.St}
/-- something more is tracked -/
theorem RSt.extra (r : RSt X.K cs F B as st H) {p : Addr} {o : HO} (hp : H p = none) : RSt X.K cs F B as st (upd H p o) ∧ Ext F as H F as (upd H p o) := by
  have nep : ∀ {a}, H a ≠ none → a ≠ p := fun h e => h (by rw [e]; exact hp)
  have up : ∀ a x, H a = some x → (upd H p o) a = some x := fun a x h => by rw [upd_ne (nep (by rw [h]; simp))]; exact h
  refine ⟨⟨fun a x h => up _ _ (r.fh _ _ h), fun a x h => up _ _ (r.bh _ _ h), r.nd, r.len, r.nb, fun l a x e1 e2 => ?_⟩, ⟨fun _ _ h => h, List.prefix_refl _, fun a x h _ => up _ _ h, fun a h => ?_, fun a h h' => absurd h' h, fun a h h' => absurd h h'⟩⟩
  · obtain ⟨z, ho, e3, e4⟩ := r.obj l a x e1 e2
    exact ⟨z, ho, up _ _ e3, e4⟩
  · have := r.there a h
    rw [upd_ne (nep this)]; exact this
theorem RSt.free (r : RSt X.K cs F B as st H) {p : Addr} (hp : H p = none) : F p = none ∧ B p = none ∧ p ∉ as := by
  refine ⟨?_, ?_, fun h => r.there p h hp⟩
  · cases q : F p with
    | none => rfl
    | some x => rw [r.fh _ _ q] at hp; cases hp
  · cases q : B p with
    | none => rfl
    | some x => rw [r.bh _ _ q] at hp; cases hp
theorem Ext.back {F' : Hp} {as' : List Addr} {H' : Hp} (x : Ext F as H F' as' H') {p : Addr} (hp : H' p = none) : H p = none := by
  cases q : H p with
  | none => rfl
  | some o =>
    by_cases h : p ∈ as
    · exact absurd hp (x.frA p h)
    · rw [x.fr _ _ q h] at hp; cases hp
/-- a fresh thing at a free address, handed to what a maker wants -/
theorem fresh_k {F' H' : Hp} {as' : List Addr} {st' : Sto} (r' : Rel X.K cs F' B as' env st' σ H') (x' : Ext F as H F' as' H') {o : Obj} {Q : VK} {p : Addr} {ho : HO} (hp : H' p = none) (ok : OOk X.K cs F' B as' o ho)
    (k : ∀ F' as' H' p ho, Rel X.K cs F' B as' env st' σ H' → Ext F as H F' as' H' → H p = none → F' p = none → p ∉ as' → H' p = some ho → OOk X.K cs F' B as' o ho → Q (.ref p) H') : Q (.ref p) (upd H' p ho) := by
  obtain ⟨r2, x2⟩ := r'.toRSt.extra (o := ho) hp
  obtain ⟨f1, f2, f3⟩ := r'.toRSt.free hp
  exact k F' as' _ p ho (r'.slots x2 r2) (x'.trans x2) (x'.back hp) f1 f3 upd_same ok
end
def fFz (f : Env → Sto → Option (Obj × Sto)) : Env → Sto → Option (Val × Sto) := fun env st => (f env st).bind fun r => (fzO r.1).map fun d => (.dat d, r.2)
def fNew (f : Env → Sto → Option (Obj × Sto)) : Env → Sto → Option (Val × Sto) := fun env st => (f env st).map fun r => (.ref r.2.length, r.2 ++ [r.1])
theorem fz_of {f : Env → Sto → Option (Obj × Sto)} : ∀ σ H Q, tE X.K cs (fFz f) σ H Q → tO X.K cs f σ H Q := fun σ H Q ⟨F, B, as, env, st, v, st', r, ev, k⟩ => by
  obtain ⟨⟨o, s1⟩, e1, ev1⟩ := obnd ev
  obtain ⟨d, hd, ev2⟩ := omap ev1
  cases ev2
  refine ⟨F, B, as, env, st, o, s1, r, e1, fun F' as' H' p ho r' x' h0 hF hn hH ok => ?_⟩
  obtain ⟨r2, x2⟩ := r'.toRSt.fz x' h0 hF hH hn
  exact k _ as' H' _ (r.slots x2 r2) x2 (frozen_den hd ok hF)
theorem new_of {f : Env → Sto → Option (Obj × Sto)} : ∀ σ H Q, tE X.K cs (fNew f) σ H Q → tO X.K cs f σ H Q := fun σ H Q ⟨F, B, as, env, st, v, st', r, ev, k⟩ => by
  obtain ⟨⟨o, s1⟩, e1, ev1⟩ := omap ev
  cases ev1
  refine ⟨F, B, as, env, st, o, s1, r, e1, fun F' as' H' p ho r' x' h0 hF hn hH ok => ?_⟩
  have pB : B p = none := by
    cases z : B p with
    | none => rfl
    | some y => rw [r.bh _ _ z] at h0; cases h0
  obtain ⟨r2, x2⟩ := r'.toRSt.adopt x' h0 hF pB hH hn (ok.mono (fun _ _ h => h) (List.prefix_append _ _))
  refine k _ (as' ++ [p]) H' _ (r.slots x2 r2) x2 ⟨p, ?_, rfl⟩
  rw [show s1.length = as'.length from r'.len.symm, List.getElem?_append_right (Nat.le_refl _), Nat.sub_self]
  rfl
theorem s_fz {f : Env → Sto → Option (Obj × Sto)} (h : PE X e (tO X.K cs f)) : PE X e (tE X.K cs (fFz f)) := h.weak fz_of
theorem s_new {f : Env → Sto → Option (Obj × Sto)} (h : PE X e (tO X.K cs f)) : PE X e (tE X.K cs (fNew f)) := h.weak new_of
/-! ### what makes new ones -/
def fLst (g : Env → Sto → Option (List Val × Sto)) : Env → Sto → Option (Obj × Sto) := fun env st => (g env st).bind fun r => (toDs r.1 r.2).map fun q => (.lst q.1, q.2)
theorem s_lst (h : PA X es (tEs X.K cs g)) (hl : ∀ env st vs st', g env st = some (vs, st') → vs.length ≤ LIM) : PE X (.List es pos) (tO X.K cs (fLst g)) := (pe_lst h).weak fun σ H Q ⟨F, B, as, env, st, v, st', r, ev, k⟩ => by
  obtain ⟨⟨vs, s1⟩, e1, ev1⟩ := obnd ev
  obtain ⟨⟨ds, s2⟩, e2, ev2⟩ := omap ev1
  cases ev2
  refine ⟨F, B, as, env, st, vs, s1, r, e1, fun F1 as1 H1 us r1 x1 v1 => ⟨by rw [← line_eq, ← Paired.len v1]; exact hl _ _ _ _ e1, fun p hp => ?_⟩⟩
  obtain ⟨F2, r2, x2, q2⟩ := toDs_ok r1 e2 v1
  exact fresh_k (o := .lst ds) r2 (x1.trans x2) hp ⟨us, rfl, q2⟩ k
theorem s_dic0 : PE X (.Dict [] [] pos) (tO X.K cs fun _ st => some (.dK [] [], st)) := pe_dnewK.weak fun σ H Q ⟨F, B, as, env, st, v, st', r, ev, k⟩ => by
  cases ev
  exact fun p hp => fresh_k (o := .dK [] []) r r.refl hp ⟨[], rfl, rfl, Dens.nil.mpr rfl⟩ k
theorem s_dicT : PE X (.Dict [] [] pos) (tO X.K cs fun _ st => some (.dT [] [], st)) := pe_dnewT.weak fun σ H Q ⟨F, B, as, env, st, v, st', r, ev, k⟩ => by
  cases ev
  exact fun p hp => fresh_k (o := .dT [] []) r r.refl hp ⟨[], rfl, rfl, Dens.nil.mpr rfl⟩ k
def fCut (f : Env → Sto → Option (Val × Sto)) (l h : Env → Sto → Option (Option Int × Sto)) : Env → Sto → Option (Obj × Sto) := fun env st => (f env st).bind fun r => (l env r.2).bind fun l => (h env l.2).bind fun h => (asL h.2 r.1).map fun ds => (.lst (cutL ds l.1 h.1), h.2)
theorem s_cut {lo hi : Option Expr} {p2 : Pos} {l h : Env → Sto → Option (Option Int × Sto)} (h1 : PE X e (tE X.K cs f)) (hl : PO X lo (tP X.K cs l)) (hh : PO X hi (tP X.K cs h)) : PE X (.Subscript e (.Slice lo hi none p2) pos) (tO X.K cs (fCut f l h)) :=
  (pe_slice sl_list h1 hl hh).weak fun σ H Q ⟨F, B, as, env, st, v, st', r, ev, k⟩ => by
    obtain ⟨⟨x, st1⟩, ha, ev1⟩ := obnd ev
    obtain ⟨⟨lv, st2⟩, hb, ev2⟩ := obnd ev1
    obtain ⟨⟨hv, st3⟩, hc, ev3⟩ := obnd ev2
    obtain ⟨ds, hd, ev4⟩ := omap ev3
    cases ev4
    refine ⟨F, B, as, env, st, x, st1, r, ha, fun F1 as1 H1 u r1 x1 v1 => ⟨F1, B, as1, env, st1, lv, st2, r1, hb, fun F2 as2 H2 r2 x2 => ⟨F2, B, as2, env, st2, hv, st3, r2, hc, fun F3 as3 H3 r3 x3 => ?_⟩⟩⟩
    obtain ⟨p, us, rfl, hp, hq⟩ := asL_ok r3.toRSt hd ((v1.ext x2).ext x3)
    exact ⟨p, us, rfl, hp, fun t ht => fresh_k (o := .lst (cutL ds lv hv)) r3 ((x1.trans x2).trans x3) ht ⟨_, rfl, cut_dens lv hv hq⟩ k⟩
/-! xs[::2] -/
theorem evn_pick0 {α : Type} : ∀ xs : List α, ((List.range ((xs.length + 1) / 2)).map (2 * ·)).filterMap (xs[·]?) = evens xs
  | [] => by simp [evens]
  | [a] => by simp [evens, List.range_succ]
  | a :: b :: r => by
    have e : ((a :: b :: r).length + 1) / 2 = (r.length + 1) / 2 + 1 := by simp only [List.length_cons]; omega
    rw [e, List.range_succ_eq_map, List.map_cons, List.filterMap_cons]
    simp only [Nat.mul_zero, List.getElem?_cons_zero, evens]
    rw [← evn_pick0 r, List.map_map, List.filterMap_map, List.filterMap_map]
    congr 1
theorem evn_pick (items : Array Value) : slicePick items none none (some 2) = (evens items.toList).toArray := by
  unfold slicePick
  congr 1
  rw [← evn_pick0]
  have e : sliceRange (sliceBounds none none (some 2) items.size).1 (sliceBounds none none (some 2) items.size).2.1 (sliceBounds none none (some 2) items.size).2.2 = (List.range ((items.toList.length + 1) / 2)).map (2 * ·) := by
    show sliceRange 0 (items.size : Int) 2 = _
    unfold sliceRange
    rw [Array.length_toList]
    by_cases h : (0 : Int) < (items.size : Int)
    · have c : (((items.size : Int) - 0 + 2 - 1) / 2).toNat = (items.size + 1) / 2 := by omega
      simp only [show ((2 : Int) > 0) from by decide, if_true, h, c]
      refine List.map_congr_left fun k _ => ?_
      omega
    · have c : items.size = 0 := by omega
      simp [c]
  rw [e]
  refine congrArg (fun g => List.filterMap g _) (funext fun k => ?_)
  simp
theorem evens_le {α : Type} : ∀ xs : List α, (evens xs).length ≤ xs.length
  | [] => Nat.le_refl _
  | [_] => Nat.le_refl _
  | a :: b :: r => by have := evens_le r; simp only [evens, List.length_cons]; omega
theorem evens_pair {α β : Type} {R : α → β → Prop} : ∀ {xs : List α} {ys : List β}, Paired R xs ys → Paired R (evens xs) (evens ys)
  | [], _, .nil => .nil
  | [a], _, .cons h .nil => .cons h .nil
  | a :: b :: r, _, .cons h (.cons _ k) => .cons h (evens_pair k)
theorem evens_dens {K : PySem.W.Frag} {F : Hp} : ∀ {ds : List D} {us : List V}, Dens K F ds us → Dens K F (evens ds) (evens us)
  | [], us, h => by rw [Dens.nil.mp h]; exact Dens.nil.mpr rfl
  | [a], us, h => by
    obtain ⟨u, us', rfl, x, y⟩ := Dens.cons.mp h
    rw [Dens.nil.mp y]
    exact Dens.cons.mpr ⟨u, [], rfl, x, Dens.nil.mpr rfl⟩
  | a :: b :: r, us, h => by
    obtain ⟨u, us', rfl, x, y⟩ := Dens.cons.mp h
    obtain ⟨u2, us2, rfl, x2, y2⟩ := Dens.cons.mp y
    exact Dens.cons.mpr ⟨u, _, rfl, x, evens_dens y2⟩
def tEvL (K : PySem.W.Frag) (te : TE) : TE := fun σ H Q => te σ H fun x H1 => ∃ a xs, x = .ref a ∧ SqL K H1 a xs ∧ ∀ p, H1 p = none → Q (.ref p) (upd H1 p (.lst (evens xs)))
theorem pe_evL {e : Expr} {te : TE} {k : Nat} {p1 p3 pos : Pos} (he : PE X e te) : PE X (.Subscript e (.Slice none none (some (.Constant (.int 2) k p1)) p3) pos) (tEvL X.K te) := by
  refine ⟨fun pins s σ H Q I h => ?_⟩
  refine Subscript_ (thn (he.run pins s σ H _ I h) fun v s1 ⟨x, H1, I1, r1, q1⟩ => ?_)
  obtain ⟨a, xs, ex, hx, q⟩ := q1
  subst ex
  cases r1
  have hst : PO X (some (.Constant (.int 2) k p1)) (tPart (tC (.int 2))) := po_some pe_int
  refine wpAny_Slice (thn (po_none.run pins s1 σ H1 (fun o H2 => o = none ∧ H2 = H1) I1 ⟨rfl, rfl⟩) fun vl s2 ⟨l, H2, I2, pl, el, e2⟩ => ?_)
  subst el e2
  refine thn (po_none.run pins s2 σ H2 (fun o H3 => o = none ∧ H3 = H2) I2 ⟨rfl, rfl⟩) fun vu s3 ⟨u, H3, I3, pu, eu, e3⟩ => ?_
  subst eu e3
  refine thn (hst.run pins s3 σ H3 (fun o H4 => o = some 2 ∧ H4 = H3) I3 ⟨2, rfl, rfl, rfl⟩) fun vs s4 ⟨o, H4, I4, ps, eo, e4⟩ => ?_
  subst eo e4
  have I5 : Inv X pins σ H4 { s4 with heap := s4.heap.push { cls := .type "slice", data := .fields #[vl, vu, vs] } } := I4.kept (t' := s4.toks) fun b ob q => Heap.get?_push_of_some _ q
  obtain ⟨its, r, ht, hz⟩ := I5.list hx
  have hlen := r.length
  show wpAny (model X.prog X.w) X.A (subscriptTail e (.Slice none none (some (.Constant (.int 2) k p1)) p3) (.ref a) (.ref s4.heap.objs.size)) (EP X pins σ Q) X.xe { s4 with heap := s4.heap.push { cls := .type "slice", data := .fields #[vl, vu, vs] } }
  refine tail_any (ops := [.ref a, .ref s4.heap.objs.size]) ht.isList.typeIs (PySem.slot_list_getitem.lookup) ?_ (by with_unfolding_all rfl)
  refine wpAny_getItem_list_slice ht.isList (Heap.IsSliceOf.new _ vl vu vs) pl pu ps (by decide) ?_ (by rw [List.size_toArray]; omega)
  rw [evn_pick]
  refine ⟨.ref _, _, I5.laid (t' := s4.toks) (o := .lst (evens xs)) (fun b ob q => Heap.get?_push_of_some _ q) (Nat.le_refl _) ?_, rfl, q _ (I5.hok.fresh (Nat.le_refl _))⟩
  exact ⟨Nat.le_trans (evens_le _) hz, _, 0, evens_pair r, Heap.get?_push_size _ rfl⟩
def fEvn (f : Env → Sto → Option (Val × Sto)) : Env → Sto → Option (Obj × Sto) := fun env st => (f env st).bind fun r => (asL r.2 r.1).map fun ds => (.lst (evens ds), r.2)
theorem s_evn {k : Nat} {p1 p3 : Pos} (h1 : PE X e (tE X.K cs f)) : PE X (.Subscript e (.Slice none none (some (.Constant (.int 2) k p1)) p3) pos) (tO X.K cs (fEvn f)) := (pe_evL h1).weak fun σ H Q ⟨F, B, as, env, st, v, st', r, ev, k⟩ => by
  obtain ⟨⟨x, st1⟩, ha, ev1⟩ := obnd ev
  obtain ⟨ds, hd, ev4⟩ := omap ev1
  cases ev4
  refine ⟨F, B, as, env, st, x, st1, r, ha, fun F1 as1 H1 u r1 x1 v1 => ?_⟩
  obtain ⟨p, us, rfl, hp, hq⟩ := asL_ok r1.toRSt hd v1
  exact ⟨p, us, rfl, hp, fun t ht => fresh_k (o := .lst (evens ds)) r1 x1 ht ⟨_, rfl, evens_dens hq⟩ k⟩
def fCat (f1 f2 : Env → Sto → Option (Val × Sto)) : Env → Sto → Option (Obj × Sto) := fun env st => (f1 env st).bind fun r => (f2 env r.2).bind fun q => (asX q.2 r.1).bind fun xs => (asX q.2 q.1).bind fun ys =>
      if xs.length + ys.length ≤ LIM then some (.lst (xs ++ ys), q.2) else none
theorem s_cat (h1 : PE X e1 (tE X.K cs f1)) (h2 : PE X e2 (tE X.K cs f2)) : PE X (.BinOp e1 .Add e2 pos) (tO X.K cs (fCat f1 f2)) := (pe_op op_cat h1 h2).weak fun σ H Q ⟨F, B, as, env, st, v, st', r, ev, k⟩ => by
  obtain ⟨⟨x, st1⟩, ha, ev1⟩ := obnd ev
  obtain ⟨⟨y, st2⟩, hb, ev2⟩ := obnd ev1
  obtain ⟨xs, hx, ev3⟩ := obnd ev2
  obtain ⟨ys, hy, ev4⟩ := obnd ev3
  clear ev ev1 ev2 ev3
  split at ev4
  · rename_i hl
    cases ev4
    refine two r ha hb fun F' as' H' u w r' x' v1 v2 => ?_
    obtain ⟨p, us, rfl, hp, hd⟩ := asX_ok r'.toRSt hx v1
    obtain ⟨q, ws, rfl, hq, he⟩ := asX_ok r'.toRSt hy v2
    exact ⟨p, q, us, ws, rfl, rfl, hp, hq, by rw [hd.length, he.length, ← line_eq]; exact hl, fun t ht => fresh_k (o := .lst (xs ++ ys)) r' x' ht ⟨_, rfl, hd.append he⟩ k⟩
  · cases ev4
theorem Dens.rep {K : PySem.W.Frag} {F : Hp} {ds : List D} {us : List V} (h : Dens K F ds us) (n : Nat) : Dens K F (List.replicate n ds).flatten (List.replicate n us).flatten := by
  induction n with
  | zero => exact Dens.nil.mpr rfl
  | succ n ih => rw [List.replicate_succ, List.replicate_succ, List.flatten_cons, List.flatten_cons]; exact h.append ih
def fRep (f1 f2 : Env → Sto → Option (Val × Sto)) : Env → Sto → Option (Obj × Sto) := fun env st => (f1 env st).bind fun r => (f2 env r.2).bind fun q => (asX q.2 r.1).bind fun xs => (intOf q.1).bind fun k =>
      if xs.length * k.toNat ≤ LIM ∧ -(2 ^ 63) ≤ k ∧ k < 2 ^ 63 then some (.lst (List.replicate k.toNat xs).flatten, q.2) else none
theorem intOf_eq {v : Val} {i : Int} (h : intOf v = some i) : v = .dat (.int i) := by
  unfold intOf at h
  split at h
  · cases h; rfl
  · cases h
theorem s_rep (h1 : PE X e1 (tE X.K cs f1)) (h2 : PE X e2 (tE X.K cs f2)) : PE X (.BinOp e1 .Mult e2 pos) (tO X.K cs (fRep f1 f2)) := (pe_op op_rep h1 h2).weak fun σ H Q ⟨F, B, as, env, st, v, st', r, ev, k⟩ => by
  obtain ⟨⟨x, st1⟩, ha, ev1⟩ := obnd ev
  obtain ⟨⟨y, st2⟩, hb, ev2⟩ := obnd ev1
  obtain ⟨xs, hx, ev3⟩ := obnd ev2
  obtain ⟨j, hj, ev4⟩ := obnd ev3
  clear ev ev1 ev2 ev3
  split at ev4
  · rename_i hl
    cases ev4
    refine two r ha hb fun F' as' H' u w r' x' v1 v2 => ?_
    obtain ⟨p, us, rfl, hp, hd⟩ := asX_ok r'.toRSt hx v1
    have hy := intOf_eq hj
    dsimp only at hy
    subst hy
    exact ⟨p, j, us, rfl, int_of v2, hp, hl.2.1, hl.2.2, by rw [hd.length, ← line_eq]; exact hl.1, fun t ht => fresh_k (o := .lst (List.replicate j.toNat xs).flatten) r' x' ht ⟨_, rfl, hd.rep _⟩ k⟩
  · cases ev4
def fList (f : Env → Sto → Option (Val × Sto)) : Env → Sto → Option (Obj × Sto) := fun env st => (f env st).bind fun r => (asLS r.2 r.1).map fun ds => (.lst ds, r.2)
theorem tcb_of {R : List V → Hp → VK → Prop} {σ : L2.St} {H : Hp} {Q : VK} (h : tEs X.K cs g σ H fun vs H1 => R vs H1 Q) : tCB R (tEs X.K cs g) σ H Q := h
theorem vals_signs : ∀ (cs : List Nat) (us : List Value), us.length = cs.length → (∀ (j : Nat) (v : Value), us[j]? = some v → ∃ (c : Nat) (u : Tok), cs[j]? = some c ∧ v = Value.str ⟨#[c]⟩ u) → Vals (cs.map fun c => V.str (S [c])) us
  | [], [], _, _ => .nil
  | [], _ :: _, h, _ => by simp at h
  | _ :: _, [], h, _ => by simp at h
  | c :: cs, u :: us, h, k => by
    obtain ⟨c', t, e, rfl⟩ := k 0 u rfl
    simp at e; subst e
    exact .cons ⟨t, rfl⟩ (vals_signs cs us (by simpa using h) fun j v hj => by
      obtain ⟨c2, t2, e2, e3⟩ := k (j + 1) v (by simpa using hj)
      exact ⟨c2, t2, by simpa using e2, e3⟩)
theorem call_listS (hc : X.calm = true) : CallR X (.type "list") (fun xs H Q => ∃ w : W, xs = [.str (S w)] ∧ w.length ≤ LIM ∧ ∀ l, H l = none → Q (.ref l) (upd H l (.lst (w.map fun c => V.str (S [c]))))) := by
  intro pins s σ H xs us Q I r h
  obtain ⟨w, rfl, hz, q⟩ := h
  obtain ⟨u, rfl, t, rfl⟩ := vals1 r
  refine call_list_str (I.ok.hd hc) (S w) t (hn := show (S w).length ≤ sizeLine by rw [S_len, ← line_eq]; exact hz) fun h' tk acc' c' hk hS' hacc => ?_
  have hl : acc'.toList.length = w.length := by have := hacc.1; simp [S] at this; simp [this]
  refine ⟨.ref s.heap.objs.size, _, I.laid (t' := tk) hk (Nat.le_refl _) (show ObjOk X.prog X.w _ h' _ (.lst (w.map fun c => V.str (S [c]))) from ⟨by rw [List.length_map, ← line_eq]; exact hz, acc'.toList, c', vals_signs _ _ hl fun j v hv => ?_, by simpa using hS'⟩), rfl, q _ (I.hok.fresh (Nat.le_refl _))⟩
  obtain ⟨c, u, h1, h2⟩ := hacc.2 j v (by simpa using hv)
  exact ⟨c, u, by simpa [S] using h1, h2⟩
theorem dens_signs {K : PySem.W.Frag} {F : Hp} : ∀ w : W, Dens K F (w.map fun c => .str [c]) (w.map fun c => V.str (S [c]))
  | [] => Dens.nil.mpr rfl
  | c :: w => Dens.cons.mpr ⟨_, _, rfl, Den.str_iff.mpr rfl, dens_signs w⟩
theorem asLS_cases {st : Sto} {v : Val} {ds : List D} (h : asLS st v = some ds) : asLT st v = some ds ∨ ∃ w : W, v = .dat (.str w) ∧ w.length ≤ LIM ∧ ds = w.map fun c => .str [c] := by
  unfold asLS at h
  split at h
  · rename_i ds' hd'
    cases h
    exact .inl hd'
  · split at h
    · rename_i w _
      split at h
      · rename_i hl
        cases h
        exact .inr ⟨w, rfl, hl, rfl⟩
      · cases h
    · cases h
theorem s_list {p : Pos} (hc : X.calm = true) (hg : Gl X "list") (hm : X.mg "list" = none) (h : PE X e (tE X.K cs f)) (hs : nStar e = true) : PE X (.Call (.Name "list" p) [e] [] pos) (tO X.K cs (fList f)) :=
  (pe_callTy (call_list_of.or (call_listS hc)) hg hm (by decide +kernel) (s_cons h s_nil hs) (by decide) (by decide) (noStar hs) rfl).weak fun σ H Q ⟨F, B, as, env, st, v, st', r, ev, k⟩ => by
    obtain ⟨⟨x, st1⟩, ha, ev1⟩ := obnd ev
    obtain ⟨ds, hd, ev2⟩ := omap ev1
    cases ev2
    refine ⟨F, B, as, env, st, [x], st1, r, by simp [ha], fun F' as' H' us r' x' v1 => ?_⟩
    cases v1 with
    | cons q t =>
      cases t
      rcases asLS_cases hd with hd' | ⟨w, rfl, hl, rfl⟩
      · obtain ⟨p, us, rfl, hp, hq⟩ := asLT_ok r'.toRSt hd' q
        exact .inl ⟨p, us, rfl, hp, fun t ht => fresh_k (o := .lst ds) r' x' ht ⟨_, rfl, hq⟩ k⟩
      · have e := str_of q
        subst e
        exact .inr ⟨w, rfl, hl, fun t ht => fresh_k (o := .lst (w.map fun c => .str [c])) r' x' ht ⟨_, rfl, dens_signs w⟩ k⟩
def fDict (f : Env → Sto → Option (Val × Sto)) : Env → Sto → Option (Obj × Sto) := fun env st => (f env st).bind fun r => (asDK r.2 r.1).map fun q => (.dK q.1 q.2, r.2)
theorem s_dict {p : Pos} (hg : Gl X "dict") (hm : X.mg "dict" = none) (h : PE X e (tE X.K cs f)) (hs : nStar e = true) : PE X (.Call (.Name "dict" p) [e] [] pos) (tO X.K cs (fDict f)) :=
  (pe_callTy call_dictD hg hm (by decide +kernel) (s_cons h s_nil hs) (by decide) (by decide) (noStar hs) rfl).weak fun σ H Q ⟨F, B, as, env, st, v, st', r, ev, k⟩ => by
    obtain ⟨⟨x, st1⟩, ha, ev1⟩ := obnd ev
    obtain ⟨⟨ks, ds⟩, hd, ev2⟩ := omap ev1
    cases ev2
    refine ⟨F, B, as, env, st, [x], st1, r, by simp [ha], fun F' as' H' us r' x' v1 => ?_⟩
    cases v1 with
    | cons q t =>
      cases t
      have hd' : snap st1 x = some (.dK ks ds) := by
        unfold asDK at hd
        split at hd
        · cases hd; assumption
        · cases hd
      obtain ⟨p, us, rfl, hp, hl, hq⟩ := top_dK r'.toRSt hd' q
      exact ⟨p, _, rfl, hp, fun t ht => fresh_k (o := .dK ks ds) r' x' ht ⟨us, rfl, hl, hq⟩ k⟩
/-! ### what is walked -/
/-- an iterator that goes through the data ds, from the frozen part F on, as long as the store keeps G -/
structure Yields (K : PySem.W.Frag) (cs : Nat → Option Addr) (F B : Hp) (as : List Addr) (G : Sto → Prop) (J : It) (ds : List D) : Prop where
  stop : ∀ {F2 as2 st2 H2} (i : Nat), (∀ a o, F a = some o → F2 a = some o) → as <+: as2 → G st2 → RSt K cs F2 B as2 st2 H2 → ds.length = i → J.stop i H2
  go : ∀ {F2 as2 st2 H2} (i : Nat) (d : D), (∀ a o, F a = some o → F2 a = some o) → as <+: as2 → G st2 → RSt K cs F2 B as2 st2 H2 → ds[i]? = some d → J.go i H2
  yld : ∀ {F2 as2 st2 H2} (i : Nat) (d : D) (x : V) (H3 : Hp), (∀ a o, F a = some o → F2 a = some o) → as <+: as2 → G st2 → RSt K cs F2 B as2 st2 H2 → ds[i]? = some d → J.yld i H2 x H3 → ∃ F3, RSt K cs F3 B as2 st2 H3 ∧ Ext F2 as2 H2 F3 as2 H3 ∧ Den K F3 d x
def tIG (K : PySem.W.Frag) (cs : Nat → Option Addr) (fi : Env → Sto → Option (List D × Sto)) (G : Env → Sto → Sto → Prop) : TI := fun σ H R => ∃ F B as env st ds st', Rel K cs F B as env st σ H ∧ fi env st = some (ds, st') ∧
  ∀ F' as' H' J, Rel K cs F' B as' env st' σ H' → Ext F as H F' as' H' → Yields K cs F' B as' (G env st') J ds → ds.length ≤ LIM → R J H'
def anyG : Env → Sto → Sto → Prop := fun _ _ => anyS
def tI (K : PySem.W.Frag) (cs : Nat → Option Addr) (fi : Env → Sto → Option (List D × Sto)) : TI := tIG K cs fi anyG
theorem _root_.L2.PI.weak {tg iter : Expr} {t t' : TI} (h : PI X tg iter t) (w : ∀ σ H R, t' σ H R → t σ H R) : PI X tg iter t' := ⟨fun pins s σ H R I q => h.run pins s σ H R I (w σ H R q)⟩
/-- the abstract heap is held behind an iterator's making -/
theorem _root_.L2.PI.held {tg iter : Expr} {t : TI} (h : PI X tg iter t) : PI X tg iter (fun σ H R => t σ H fun J H' => (∃ hh, HOk X.prog X.w H' hh) → R J H') := ⟨fun pins s σ H R I q =>
  thn (h.run pins s σ H _ I q) fun v s1 hv => thn hv fun itv s2 ⟨it, fp, tn, J, H', a, I2, b, c, d, e⟩ => ⟨it, fp, tn, J, H', a, I2, b, c, d, e ⟨_, I2.hok⟩⟩⟩
theorem sqL_le {P : Program} {w : World} {H : Hp} {h : Heap} (x : HOk P w H h) {p : Addr} {us : List V} (q : SqL X.K H p us) : us.length ≤ sizeLine := by
  rcases q with q | ⟨o, its, n, hk, hc, hd, hs, hz, r⟩
  · exact (q.ok x).1
  · have e := r.length
    simp only [Array.length_toList] at e
    omega
theorem yields_l {F B : Hp} {as : List Addr} {G : Sto → Prop} {p : Addr} {us : List V} {ds : List D} (hl : ∀ {F2 as2 st2 H2}, (∀ a o, F a = some o → F2 a = some o) → as <+: as2 → G st2 → RSt X.K cs F2 B as2 st2 H2 → SqL X.K H2 p us) (hd : Dens X.K F ds us) : Yields X.K cs F B as G (Itl X.K p) ds where
  stop := fun i hF hp' hG r h => ⟨us, hl hF hp' hG r, by rw [hd.length]; exact Nat.le_of_eq h⟩
  go := fun i d hF hp' hG r h => let ⟨u, e, _⟩ := hd.get h; ⟨us, u, hl hF hp' hG r, e⟩
  yld := fun i d x H3 hF hp' hG r h y => by
    obtain ⟨rfl, y2⟩ := y
    obtain ⟨u, e, q⟩ := hd.get h
    have := y2 us (hl hF hp' hG r)
    rw [e] at this; cases this
    exact ⟨_, r, r.refl, Den.mono hF _ _ q⟩
theorem yields_t {F B : Hp} {as : List Addr} {G : Sto → Prop} {p : Addr} {us : List V} {ds : List D} (hp : F p = some (.tup us)) (hd : Dens X.K F ds us) : Yields X.K cs F B as G (Itt X.K p) ds where
  stop := fun i hF hp' hG r h => ⟨us, .of (r.fh _ _ (hF _ _ hp)), by rw [hd.length]; exact Nat.le_of_eq h⟩
  go := fun i d hF hp' hG r h => let ⟨u, e, _⟩ := hd.get h; ⟨us, u, .of (r.fh _ _ (hF _ _ hp)), e⟩
  yld := fun i d x H3 hF hp' hG r h y => by
    obtain ⟨rfl, y2⟩ := y
    obtain ⟨u, e, q⟩ := hd.get h
    have := y2 us (.of (r.fh _ _ (hF _ _ hp)))
    rw [e] at this; cases this
    exact ⟨_, r, r.refl, Den.mono hF _ _ q⟩
theorem yields_s {F B : Hp} {as : List Addr} {G : Sto → Prop} {w : W} : Yields X.K cs F B as G (Its (S w)) (w.map fun c => .str [c]) where
  stop := fun i hF hp' hG r h => by
    show (S w).cps.size ≤ i
    have h := Nat.le_of_eq h
    simpa [S] using h
  go := fun i d hF hp' hG r h => by
    show i < (S w).cps.size
    have := (List.getElem?_eq_some_iff.mp h).1
    simpa [S] using this
  yld := fun i d x H3 hF hp' hG r h y => by
    obtain ⟨rfl, c, hc, rfl⟩ := y
    rw [List.getElem?_map] at h
    obtain ⟨c', hc', e⟩ := Option.map_eq_some_iff.mp h
    subst e
    have : (S w).cps[i]? = w[i]? := by simp [S]
    rw [this, hc'] at hc; cases hc
    exact ⟨_, r, r.refl, Den.str_iff.mpr rfl⟩
theorem yields_r {F B : Hp} {as : List Addr} {G : Sto → Prop} {lo hi : Int} : Yields X.K cs F B as G (Itr lo (hi - lo).toNat) (rngL lo hi) where
  stop := fun i hF hp' hG r h => by
    show (hi - lo).toNat ≤ i
    have h := Nat.le_of_eq h
    simpa [rngL] using h
  go := fun i d hF hp' hG r h => by
    show i < (hi - lo).toNat
    have := (List.getElem?_eq_some_iff.mp h).1
    simpa [rngL] using this
  yld := fun i d x H3 hF hp' hG r h y => by
    obtain ⟨rfl, rfl⟩ := y
    unfold rngL at h
    rw [List.getElem?_map] at h
    obtain ⟨c', hc', e⟩ := Option.map_eq_some_iff.mp h
    subst e
    obtain ⟨hlt, e2⟩ := List.getElem?_eq_some_iff.mp hc'
    rw [List.getElem_range] at e2
    subst e2
    exact ⟨_, r, r.refl, Den.int_iff.mpr rfl⟩
def fIt (f : Env → Sto → Option (Val × Sto)) : Env → Sto → Option (List D × Sto) := fun env st => (f env st).bind fun r => (itV r.1).map fun ds => (ds, r.2)
theorem s_it {tg : Expr} (h : PE X e (tE X.K cs f)) : PI X tg e (tI X.K cs (fIt f)) := by
  refine ⟨fun pins s σ H R I hw => ?_⟩
  obtain ⟨F, B, as, env, st, ds, st', r, ev, k⟩ := hw
  obtain ⟨⟨x, s1⟩, e1, ev1⟩ := obnd ev
  obtain ⟨ds', hd, ev2⟩ := omap ev1
  clear ev ev1
  cases ev2
  dsimp only at hd k
  unfold itV at hd
  split at hd
  · cases hd
    refine (pi_list h).held.run pins s σ H R I ⟨F, B, as, env, st, _, s1, r, e1, fun F' as' H' u r' x' v1 => ?_⟩
    obtain ⟨p, us, rfl, hp, hq⟩ := Den.lst_iff.mp v1
    exact ⟨p, rfl, ⟨us, .of (r'.fh _ _ hp)⟩, fun ⟨hh, ok⟩ => k F' as' H' _ r' x' (yields_l (fun hF _ _ r2 => .of (r2.fh _ _ (hF _ _ hp))) hq) (by rw [line_eq, ← hq.length]; exact ok.lst_le (r'.fh _ _ hp))⟩
  · cases hd
    refine (pi_tup h).held.run pins s σ H R I ⟨F, B, as, env, st, _, s1, r, e1, fun F' as' H' u r' x' v1 => ?_⟩
    obtain ⟨p, us, rfl, hp, hq⟩ := Den.tup_iff.mp v1
    exact ⟨p, rfl, ⟨us, .of (r'.fh _ _ hp)⟩, fun ⟨hh, ok⟩ => k F' as' H' _ r' x' (yields_t hp hq) (by rw [line_eq, ← hq.length]; exact ok.tup_le (r'.fh _ _ hp))⟩
  · cases hd
    refine (pi_list h).held.run pins s σ H R I ⟨F, B, as, env, st, _, s1, r, e1, fun F' as' H' u r' x' v1 => ?_⟩
    obtain ⟨p, rfl, hp⟩ := Den.scr_iff.mp v1
    exact ⟨p, rfl, ⟨_, sqL_mono r'.fh hp⟩, fun ⟨hh, ok⟩ => k F' as' H' _ r' x' (yields_l (fun hF _ _ r2 => sqL_mono r2.fh (sqL_mono hF hp)) (scrs _)) (by have := sqL_le (X := X) ok (sqL_mono r'.fh hp); rw [line_eq, List.length_map]; rw [List.length_map] at this; exact this)⟩
  · cases hd
    refine (pi_list h).held.run pins s σ H R I ⟨F, B, as, env, st, _, s1, r, e1, fun F' as' H' u r' x' v1 => ?_⟩
    obtain ⟨p, us, rfl, hp, hq⟩ := v1
    exact ⟨p, rfl, ⟨us, .of (r'.bh _ _ hp)⟩, fun ⟨hh, ok⟩ => k F' as' H' _ r' x' (yields_l (fun hF _ _ r2 => .of (r2.bh _ _ hp)) hq) (by rw [line_eq, ← hq.length]; exact ok.lst_le (r'.bh _ _ hp))⟩
  · split at hd
    case isFalse => cases hd
    rename_i hl
    cases hd
    refine (pi_str h).run pins s σ H R I ⟨F, B, as, env, st, _, s1, r, e1, fun F' as' H' u r' x' v1 => ?_⟩
    exact ⟨S _, str_of v1, k F' as' H' _ r' x' yields_s (by rw [List.length_map]; exact hl)⟩
  · cases hd
def fRng (g : Env → Sto → Option (List Val × Sto)) : Env → Sto → Option (List D × Sto) := fun env st => (g env st).bind fun r => (rngV r.1).map fun ds => (ds, r.2)
theorem rngOk_of {lo hi : Int} (h : rngOk lo hi = true) : -(2 ^ 62) ≤ lo ∧ lo < 2 ^ 62 ∧ -(2 ^ 62) ≤ hi ∧ hi < 2 ^ 62 ∧ (hi - lo).toNat ≤ LIM := by
  unfold rngOk at h
  simp only [Bool.and_eq_true, decide_eq_true_eq] at h
  exact ⟨h.1.1.1.1, h.1.1.1.2, h.1.1.2, h.1.2, h.2⟩
theorem paired1 {α β : Type} {R : α → β → Prop} {a : α} {ys : List β} (h : Paired R [a] ys) : ∃ b, ys = [b] ∧ R a b := by
  cases h with
  | cons q t => cases t; exact ⟨_, rfl, q⟩
theorem paired2 {α β : Type} {R : α → β → Prop} {a a' : α} {ys : List β} (h : Paired R [a, a'] ys) : ∃ b b', ys = [b, b'] ∧ R a b ∧ R a' b' := by
  cases h with
  | cons q t => obtain ⟨b', rfl, q'⟩ := paired1 t; exact ⟨_, b', rfl, q, q'⟩
theorem s_rng1 {tg : Expr} {p : Pos} (hg : Gl X "range") (hm : X.mg "range" = none) (h : PA X [e] (tEs X.K cs g)) (hs : nStar e = true) (hl : ∀ env st vs st', g env st = some (vs, st') → vs.length = 1) : PI X tg (.Call (.Name "range" p) [e] [] pos) (tI X.K cs (fRng g)) :=
  (pi_range1 hg hm h (noStar hs)).weak fun σ H R ⟨F, B, as, env, st, ds, st', r, ev, k⟩ => by
    obtain ⟨⟨vs, s1⟩, e1, ev1⟩ := obnd ev
    obtain ⟨ds', hd, ev2⟩ := omap ev1
    clear ev ev1
    cases ev2
    have hl' := hl _ _ _ _ e1
    dsimp only at hd k
    refine ⟨F, B, as, env, st, vs, s1, r, e1, fun F' as' H' us r' x' v1 => ?_⟩
    unfold rngV at hd
    split at hd
    · rename_i j
      split at hd
      · rename_i hj
        cases hd
        obtain ⟨u, rfl, q⟩ := paired1 v1
        obtain ⟨h1, h2, h3, h4, h5⟩ := rngOk_of hj
        refine ⟨j, by rw [int_of q], h3, h4, ?_⟩
        have := k F' as' H' (Itr 0 (j - 0).toNat) r' x' yields_r (by simpa [rngL] using h5)
        simpa using this
      · cases hd
    · simp at hl'
    · simp at hl'
    · cases hd
theorem s_rng2 {tg : Expr} {p : Pos} (hg : Gl X "range") (hm : X.mg "range" = none) (h : PA X [e, e1] (tEs X.K cs g)) (hs : nStar e = true) (hs2 : nStar e1 = true) (hl : ∀ env st vs st', g env st = some (vs, st') → vs.length = 2) : PI X tg (.Call (.Name "range" p) [e, e1] [] pos) (tI X.K cs (fRng g)) :=
  (pi_range2 hg hm h (by rw [noStar hs, noStar hs2]; rfl) (by rw [noStar hs2]; rfl)).weak fun σ H R ⟨F, B, as, env, st, ds, st', r, ev, k⟩ => by
    obtain ⟨⟨vs, s1⟩, e1, ev1⟩ := obnd ev
    obtain ⟨ds', hd, ev2⟩ := omap ev1
    clear ev ev1
    cases ev2
    have hl' := hl _ _ _ _ e1
    dsimp only at hd k
    refine ⟨F, B, as, env, st, vs, s1, r, e1, fun F' as' H' us r' x' v1 => ?_⟩
    unfold rngV at hd
    split at hd
    · simp at hl'
    · rename_i i j
      split at hd
      · rename_i hj
        cases hd
        obtain ⟨u, w, rfl, q, q'⟩ := paired2 v1
        obtain ⟨h1, h2, h3, h4, h5⟩ := rngOk_of hj
        exact ⟨i, j, by rw [int_of q, int_of q'], ⟨h1, h2, h3, h4⟩, k F' as' H' _ r' x' yields_r (by simpa [rngL] using h5)⟩
      · cases hd
    · simp at hl'
    · cases hd
theorem yields_s2 {F B : Hp} {as : List Addr} {G : Sto → Prop} {lo hi : Int} : Yields X.K cs F B as G (Itc lo 2 ((hi - lo + 1) / 2).toNat) (rngS lo hi) where
  stop := fun i hF hp' hG r h => by
    show ((hi - lo + 1) / 2).toNat ≤ i
    have h := Nat.le_of_eq h
    simpa [rngS] using h
  go := fun i d hF hp' hG r h => by
    show i < ((hi - lo + 1) / 2).toNat
    have := (List.getElem?_eq_some_iff.mp h).1
    simpa [rngS] using this
  yld := fun i d x H3 hF hp' hG r h y => by
    obtain ⟨rfl, rfl⟩ := y
    unfold rngS at h
    rw [List.getElem?_map] at h
    obtain ⟨c', hc', e⟩ := Option.map_eq_some_iff.mp h
    subst e
    obtain ⟨hlt, e2⟩ := List.getElem?_eq_some_iff.mp hc'
    rw [List.getElem_range] at e2
    subst e2
    exact ⟨_, r, r.refl, Den.int_iff.mpr rfl⟩
theorem rgC_two {i j : Int} (h : rngOk i j = true) : RgC i j 2 ((j - i + 1) / 2).toNat := by
  obtain ⟨h1, h2, h3, h4, h5⟩ := rngOk_of h
  have e : Builtin.Range.rangeSize i j 2 = (((j - i + 1) / 2).toNat : Int) := by
    unfold Builtin.Range.rangeSize
    rw [if_pos (by decide)]
    split <;> omega
  refine ⟨by decide, by decide, ?_, e⟩
  unfold Builtin.Range.small
  rw [e]
  simp only [Builtin.Range.rangeFitsLong, Bool.and_eq_true, Bool.or_eq_true, decide_eq_true_eq, beq_iff_eq, show ((2 : Int) > 0) by decide, if_true]
  omega
theorem paired3 {α β : Type} {R : α → β → Prop} {a a' a'' : α} {ys : List β} (h : Paired R [a, a', a''] ys) : ∃ b b' b'', ys = [b, b', b''] ∧ R a b ∧ R a' b' ∧ R a'' b'' := by
  cases h with
  | cons q t => obtain ⟨b', b'', rfl, q', q''⟩ := paired2 t; exact ⟨_, b', b'', rfl, q, q', q''⟩
theorem s_rng3 {tg : Expr} {p : Pos} (hg : Gl X "range") (hm : X.mg "range" = none) (h : PA X [e, e1, e2] (tEs X.K cs g)) (hs : nStar e = true) (hs2 : nStar e1 = true) (hs3 : nStar e2 = true) (hl : ∀ env st vs st', g env st = some (vs, st') → vs.length = 3) : PI X tg (.Call (.Name "range" p) [e, e1, e2] [] pos) (tI X.K cs (fRng g)) :=
  (pi_range3 hg hm h (by rw [noStar hs, noStar hs2, noStar hs3]) (by rw [noStar hs2, noStar hs3]; rfl)).weak fun σ H R ⟨F, B, as, env, st, ds, st', r, ev, k⟩ => by
    obtain ⟨⟨vs, s1⟩, e1, ev1⟩ := obnd ev
    obtain ⟨ds', hd, ev2⟩ := omap ev1
    clear ev ev1
    cases ev2
    have hl' := hl _ _ _ _ e1
    dsimp only at hd k
    refine ⟨F, B, as, env, st, vs, s1, r, e1, fun F' as' H' us r' x' v1 => ?_⟩
    unfold rngV at hd
    split at hd
    · simp at hl'
    · simp at hl'
    · rename_i i j c
      split at hd
      · rename_i hj
        cases hd
        simp only [Bool.and_eq_true, decide_eq_true_eq] at hj
        obtain ⟨⟨hj, hc⟩, h6⟩ := hj
        subst hc
        obtain ⟨u, w, z, rfl, q, q', q''⟩ := paired3 v1
        exact ⟨i, j, 2, _, by rw [int_of q, int_of q', int_of q''], rgC_two hj, k F' as' H' _ r' x' yields_s2 (by simpa [rngS] using h6)⟩
      · cases hd
    · cases hd
end
end NK
set_option Elab.async false
set_option linter.all false
set_option autoImplicit false
set_option maxRecDepth 100000
/-! NkJ: targets, comprehensions, loops, statements. -/
namespace NK
open PySem PySem.Spec PyProof.Rows L2
section
variable {X : Cx} {cs : Nat → Option Addr} {e e1 e2 e3 : Expr} {es : List Expr} {f f1 f2 f3 : Env → Sto → Option (Val × Sto)} {g : Env → Sto → Option (List Val × Sto)} {pos : Pos}
section
variable {K : PySem.W.Frag} {F B H : Hp} {as : List Addr} {env : Env} {st : Sto} {σ : L2.St}
theorem Rel.set' (r : Rel K cs F B as env st σ H) {i : Nat} {v : Val} {u : V} (h : VOk K F B as v u) : Rel K cs F B as (env.set i (some v)) st (σ.set i (some u)) H := by
  by_cases hi : i < σ.length
  · exact r.set h hi
  · rw [List.set_eq_of_length_le (by rw [r.elen]; omega), List.set_eq_of_length_le (by omega)]
    exact r
theorem wipeE_len : ∀ vs : List Nat, (wipeE env vs).length = env.length
  | [] => rfl
  | v :: vs => by unfold wipeE; rw [List.length_set, wipeE_len vs]
theorem Rel.wiped (r : Rel K cs F B as env st σ H) (vs : List Nat) : Rel K cs F B as (wipeE env vs) st (wipe σ vs) H := by
  induction vs with
  | nil => exact r
  | cons v vs ih =>
    refine { ih.toRSt with slot := fun i w e => ?_, elen := by unfold wipeE wipe; rw [List.length_set, List.length_set]; exact ih.elen }
    unfold wipeE at e
    unfold L2.wipe
    by_cases hi : i = v
    · subst hi
      by_cases hl : i < (wipeE env vs).length
      · rw [List.getElem?_set_self hl] at e; cases e
      · rw [List.getElem?_eq_none (by simp; omega)] at e; cases e
    · rw [List.getElem?_set_ne (Ne.symm hi)] at e
      rw [List.getElem?_set_ne (Ne.symm hi)]
      exact ih.slot i w e
theorem wipe_set {i : Nat} {x : Option V} : ∀ {vs : List Nat} {σ : L2.St}, i ∈ vs → wipe (σ.set i x) vs = wipe σ vs
  | [], σ, h => by simp at h
  | v :: vs, σ, h => by
    unfold L2.wipe
    have out : ∀ {vs : List Nat} {σ : L2.St}, i ∉ vs → wipe (σ.set i x) vs = (wipe σ vs).set i x := fun {vs} => by
      induction vs with
      | nil => intro σ _; rfl
      | cons w ws ih =>
        intro σ hn
        unfold L2.wipe
        rw [ih (fun z => hn (List.mem_cons_of_mem _ z)), List.set_comm _ _ (fun e : i = w => hn (by rw [e]; exact List.mem_cons_self))]
    by_cases hi : i ∈ vs
    · rw [wipe_set hi]
    · have e : i = v := by rcases List.mem_cons.mp h with e | e; exact e; exact absurd e hi
      subst e
      rw [out hi, List.set_set]
end
theorem wipe_same {τ : L2.St} : ∀ {vs : List Nat}, (∀ v ∈ vs, τ.set v none = τ) → wipe τ vs = τ
  | [], _ => rfl
  | v :: vs, h => by
    show (wipe τ vs).set v none = τ
    rw [wipe_same fun w hw => h w (List.mem_cons_of_mem _ hw)]
    exact h v List.mem_cons_self
theorem wipe_none {σ : L2.St} {own : List Nat} {v : Nat} (hv : v ∈ own) : (wipe σ own).set v none = wipe σ own := by
  by_cases hl : v < (wipe σ own).length
  · have e2 := List.getElem?_eq_getElem hl
    cases z : (wipe σ own)[v] with
    | none =>
      have := List.set_getElem_self hl
      rw [z] at this
      exact this
    | some y =>
      rw [z] at e2
      exact absurd hv (wipe_some e2).2
  · exact List.set_eq_of_length_le (by omega)
theorem wipe_twice {σ : L2.St} {own : List Nat} : wipe (wipe σ own) own = wipe σ own := wipe_same fun _ h => wipe_none h
/-- a target that binds a datum as told -/
def TgOk (K : PySem.W.Frag) (cs : Nat → Option Addr) (t : TG) (bind : D → Env → Option Env) (tg : List Nat) : Prop := ∀ {F B H : Hp} {as : List Addr} {env : Env} {st : Sto} {σ : L2.St} {d : D} {u : V} {env' : Env} {Q : L2.St → Hp → Prop}, Rel K cs F B as env st σ H → Den K F d u → bind d env = some env' →
  (∀ σ', Rel K cs F B as env' st σ' H → (∀ vs : List Nat, (∀ i ∈ tg, i ∈ vs) → wipe σ' vs = wipe σ vs) → Q σ' H) → t u σ H Q
theorem tg_name {i : Nat} : TgOk X.K cs (gName i) (fun d e => bindT [i] false d e) [i] := fun {F B H as env st σ d u env' Q} r q h k => by
  simp only [bindT] at h
  cases h
  exact k _ (r.set' q) fun vs hv => wipe_set (hv i (by simp))
/-- names in a row -/
def gNames : List Nat → TGs
  | [] => gNil
  | i :: is => gCons (gName i) (gNames is)
theorem tg_names : ∀ {is : List Nat} {F B H : Hp} {as : List Addr} {env : Env} {st : Sto} {σ : L2.St} {ds : List D} {us : List V} {env' : Env} {Q : L2.St → Hp → Prop}, Rel X.K cs F B as env st σ H → Dens X.K F ds us → bindT.go is ds env = some env' →
    (∀ σ', Rel X.K cs F B as env' st σ' H → (∀ vs : List Nat, (∀ i ∈ is, i ∈ vs) → wipe σ' vs = wipe σ vs) → Q σ' H) → gNames is us σ H Q
  | [], F, B, H, as, env, st, σ, [], us, env', Q, r, q, h, k => by
    simp only [bindT.go] at h; cases h
    exact ⟨Dens.nil.mp q, k σ r fun _ _ => rfl⟩
  | [], F, B, H, as, env, st, σ, _ :: _, us, env', Q, r, q, h, k => by simp [bindT.go] at h
  | _ :: _, F, B, H, as, env, st, σ, [], us, env', Q, r, q, h, k => by simp [bindT.go] at h
  | i :: is, F, B, H, as, env, st, σ, d :: ds, us, env', Q, r, q, h, k => by
    simp only [bindT.go] at h
    obtain ⟨u, us', rfl, a, b⟩ := Dens.cons.mp q
    refine ⟨u, us', rfl, ?_⟩
    show gNames is us' (σ.set i (some u)) H Q
    refine tg_names (r.set' (v := .dat d) a) b h fun σ' r' w => k σ' r' fun vs hv => ?_
    rw [w vs fun j hj => hv j (List.mem_cons_of_mem _ hj), wipe_set (hv i List.mem_cons_self)]
theorem go_len : ∀ {is : List Nat} {ds : List D} {env env' : Env}, bindT.go is ds env = some env' → ds.length = is.length
  | [], [], _, _, _ => rfl
  | [], _ :: _, _, _, h => by simp [bindT.go] at h
  | _ :: _, [], _, _, h => by simp [bindT.go] at h
  | i :: is, d :: ds, _, _, h => by simp only [bindT.go] at h; simp [go_len h]
/-- a tuple or a list, taken apart -/
def gTL (K : PySem.W.Frag) (is : List Nat) : TG := fun v σ H Q => gTup K is.length (gNames is) v σ H Q ∨ gLst K is.length (gNames is) v σ H Q
theorem pg_tl {is : List Nat} {es : List Expr} {k : Nat} (hc : X.calm = true) (h : PGs X es (gNames is)) (hn : (assignEach es X.env).length = is.length) (hst : (assignEach es X.env).findIdx? (·.1) = none) : PG X (.Tuple es k pos) (gTL X.K is) :=
  ⟨fun pins s σ H v u Q I r hw => by
    rcases hw with hw | hw
    · exact (pg_tup (pos := pos) (k := k) hc h hn hst).run pins s σ H v u Q I r hw
    · exact (pg_lst (pos := pos) (k := k) hc h hn hst).run pins s σ H v u Q I r hw⟩
theorem tg_tup {is : List Nat} : TgOk X.K cs (gTL X.K is) (fun d e => bindT is true d e) is := fun {F B H as env st σ d u env' Q} r q h k => by
  simp only [bindT] at h
  split at h
  · obtain ⟨p, us, rfl, hp, hq⟩ := Den.tup_iff.mp q
    exact .inl ⟨p, us, rfl, .of (r.fh _ _ hp), by rw [hq.length]; exact go_len h, tg_names r hq h k⟩
  · obtain ⟨p, us, rfl, hp, hq⟩ := Den.lst_iff.mp q
    exact .inr ⟨p, us, rfl, .of (r.fh _ _ hp), by rw [hq.length]; exact go_len h, tg_names r hq h k⟩
  · cases h
/-! ### comprehensions -/
def fComp (fi : Env → Sto → Option (List D × Sto)) (own : List Nat) (bind : D → Env → Option Env) (cond : Env → Sto → Option (Bool × Sto)) (elt : Env → Sto → Option (Val × Sto)) : Env → Sto → Option (Obj × Sto) := fun env st =>
  (fi env st).bind fun r => (compV own (wipeE env own) bind cond elt r.1 r.2).map fun q => (.lst q.1, q.2)
noncomputable def fCompG (fi : Env → Sto → Option (List D × Sto)) (G : Env → Sto → Sto → Prop) (own : List Nat) (bind : D → Env → Option Env) (cond : Env → Sto → Option (Bool × Sto)) (elt : Env → Sto → Option (Val × Sto)) : Env → Sto → Option (Obj × Sto) := fun env st =>
  (fi env st).bind fun r => (compG (G env r.2) own (wipeE env own) bind cond elt r.1 r.2).map fun q => (.lst q.1, q.2)
theorem fCompG_any {fi : Env → Sto → Option (List D × Sto)} {own : List Nat} {bind : D → Env → Option Env} {cond : Env → Sto → Option (Bool × Sto)} {elt : Env → Sto → Option (Val × Sto)} : fCompG fi anyG own bind cond elt = fComp fi own bind cond elt := by
  funext env st
  simp only [fCompG, fComp, anyG, compG_any]
theorem comp_ofGZ {Z : L2.St → Hp → Prop} {fi : Env → Sto → Option (List D × Sto)} {G : Env → Sto → Sto → Prop} {own tg : List Nat} {bind : D → Env → Option Env} {cond : Env → Sto → Option (Bool × Sto)} {elt : Env → Sto → Option (Val × Sto)} {t : TG} (ht : TgOk X.K cs t bind tg) (hs : ∀ i ∈ tg, i ∈ own) (hG0 : ∀ env st ds st', fi env st = some (ds, st') → G env st' st') :
    ∀ σ H Q, Z σ H ∧ tO X.K cs (fCompG fi G own bind cond elt) σ H Q → tLc (fun σ H R => Z σ H ∧ tIG X.K cs fi G σ H R) t (tB X.K cs cond) (tE X.K cs elt) own σ H Q := fun σ H Q ⟨hZ, F, B, as, env, st, o, st', r, ev, k⟩ => by
  obtain ⟨⟨ds, s1⟩, hfi, ev1⟩ := obnd ev
  obtain ⟨⟨acc, s2⟩, hc, ev2⟩ := omap ev1
  clear ev ev1
  cases ev2
  dsimp only at hc k
  refine ⟨hZ, F, B, as, env, st, ds, s1, r, hfi, fun F1 as1 H1 J r1 x1 Y hlen => fun D hD => ?_⟩
  refine ⟨fun i m H2 => m = ds.length - i ∧ i ≤ ds.length ∧ ∃ F2 as2 st2 accd accu rest, RSt X.K cs F2 B as2 st2 H2 ∧ Ext F1 as1 H1 F2 as2 H2 ∧ H2 D = some (.lst accu) ∧ Dens X.K F2 accd accu ∧ F2 D = none ∧ D ∉ as2 ∧ accu.length ≤ i ∧
    compG (G env s1) own (wipeE env own) bind cond elt (ds.drop i) st2 = some (rest, s2) ∧ accd ++ rest = acc ∧ G env s1 st2, ⟨ds.length, by omega, Nat.zero_le _, ?_⟩, ?_⟩
  · obtain ⟨r2, x2⟩ := r1.toRSt.extra (o := .lst []) hD
    obtain ⟨q1, q2, q3⟩ := r1.toRSt.free hD
    exact ⟨F1, as1, s1, [], [], acc, r2, x2, upd_same, Dens.nil.mpr rfl, q1, q3, Nat.le_refl _, hc, rfl, hG0 _ _ _ _ hfi⟩
  · rintro i m H2 ⟨rfl, hi, F2, as2, st2, accd, accu, rest, r2, x2, hDl, hdn, hF, hna, hal, hcv, hacc, hGs⟩
    have BD : B D = none := (r1.toRSt.free hD).2.1
    by_cases hlt : i < ds.length
    · have hd : ds[i]? = some ds[i] := List.getElem?_eq_getElem hlt
      generalize hdd : ds[i] = d at hd
      rw [List.drop_eq_getElem_cons hlt, hdd] at hcv
      refine .inr ⟨Y.go i d x2.ff x2.pre hGs r2 hd, _, fun H' p => ⟨ds.length - (i + 1), by omega, rfl, hlt, p⟩, fun x H3 y => ?_⟩
      obtain ⟨F3, r3, x3, qx⟩ := Y.yld i d x H3 x2.ff x2.pre hGs r2 hd y
      simp only [compG] at hcv
      obtain ⟨e1, hb, hcv⟩ := obnd hcv
      obtain ⟨⟨b, st3⟩, hcnd, hcv⟩ := obnd hcv
      dsimp only at hcv
      have rel3 := (r1.slots (x2.trans x3) r3).wiped own
      refine ht rel3 qx hb fun σ' r4 w4 => ⟨by
        rw [w4 own hs, wipe_twice], ?_⟩
      have hD3 : H3 D = some (.lst accu) := x3.fr _ _ hDl hna
      have hF3 : F3 D = none := by
        cases z : F3 D with
        | none => rfl
        | some y =>
          rcases x3.nf D (by rw [z]; simp) hF with w | w
          · rw [hDl] at w; cases w
          · exact absurd w hna
      refine ⟨F3, B, as2, e1, st2, b, st3, r4, hcnd, fun F4 as4 H4 r5 x4 => ?_⟩
      have keep : ∀ {F' H' : Hp} {as' : List Addr}, Ext F3 as2 H3 F' as' H' → H' D = some (.lst accu) ∧ F' D = none ∧ D ∉ as' := fun {F' H' as'} x => by
        refine ⟨x.fr _ _ hD3 hna, ?_, fun hm => ?_⟩
        · cases z : F' D with
          | none => rfl
          | some y =>
            rcases x.nf D (by rw [z]; simp) hF3 with w | w
            · rw [hD3] at w; cases w
            · exact absurd w hna
        · have := x.na D hm hna
          rw [hD3] at this; cases this
      cases b with
      | false =>
        dsimp only
        rw [if_neg Bool.false_ne_true] at hcv ⊢
        split at hcv
        case isFalse => cases hcv
        rename_i hGn
        obtain ⟨k1, k2, k3⟩ := keep x4
        exact ⟨F4, as4, st3, accd, accu, rest, r5.toRSt, (x2.trans x3).trans x4, k1, Dens.mono (fun a o h => x4.ff _ _ (x3.ff _ _ h)) _ _ hdn, k2, k3, by omega, hcv, hacc, hGn⟩
      | true =>
        dsimp only
        rw [if_pos rfl] at hcv ⊢
        obtain ⟨⟨v, st4⟩, helt, hcv⟩ := obnd hcv
        obtain ⟨⟨d', st5⟩, htd, hcv⟩ := obnd hcv
        dsimp only at hcv
        split at hcv
        case isFalse => cases hcv
        rename_i hGn
        obtain ⟨⟨rest', s2'⟩, hrec, e'⟩ := omap hcv
        cases e'
        dsimp only at hrec htd
        refine ⟨F4, B, as4, e1, st3, v, st4, r5, helt, fun F5 as5 H5 u r6 x5 v5 => ?_⟩
        obtain ⟨F6, r7, x6, qd⟩ := toD_ok r6 htd v5
        have x36 := (x4.trans x5).trans x6
        obtain ⟨k1, k2, k3⟩ := keep x36
        refine ⟨accu, k1, by rw [← line_eq]; omega, ?_⟩
        have xx := (x2.trans x3).trans x36
        refine ⟨F6, as5, st5, accd ++ [d'], accu ++ [u], rest', ⟨fun a o h => ?_, fun a o h => ?_, r7.nd, r7.len, r7.nb, fun l a o h1 h2 => ?_⟩, ⟨xx.ff, xx.pre, fun a o h hn => ?_, fun a ha => ?_, xx.nf, xx.na⟩, upd_same, ?_, k2, k3, ?_, hrec, ?_, hGn⟩
        · rw [upd_ne (by intro z; rw [z, k2] at h; cases h)]; exact r7.fh _ _ h
        · rw [upd_ne (by intro z; rw [z, BD] at h; cases h)]; exact r7.bh _ _ h
        · obtain ⟨z, ho, e3, e4⟩ := r7.obj l a o h1 h2
          exact ⟨z, ho, by rw [upd_ne (by intro z; exact k3 (z ▸ List.mem_of_getElem? h1))]; exact e3, e4⟩
        · rw [upd_ne (by intro z; rw [z, hD] at h; cases h)]; exact xx.fr _ _ h hn
        · rw [upd_ne (by intro z; exact r1.toRSt.there a ha (z ▸ hD))]; exact xx.frA a ha
        · exact (Dens.mono (fun a o h => x36.ff _ _ (x3.ff _ _ h)) _ _ hdn).append (Dens.one qd)
        · simp; omega
        · rw [← hacc]; simp
    · have hie : i = ds.length := by omega
      subst hie
      rw [List.drop_length] at hcv
      simp only [compG] at hcv
      cases hcv
      rw [List.append_nil] at hacc
      subst hacc
      refine .inl ⟨Y.stop _ x2.ff x2.pre hGs r2 rfl, ?_⟩
      exact k F2 as2 H2 D (.lst accu) (r.slots (x1.trans x2) r2) (x1.trans x2) (x1.back hD) hF hna hDl ⟨accu, rfl, hdn⟩
theorem comp_ofG {fi : Env → Sto → Option (List D × Sto)} {G : Env → Sto → Sto → Prop} {own tg : List Nat} {bind : D → Env → Option Env} {cond : Env → Sto → Option (Bool × Sto)} {elt : Env → Sto → Option (Val × Sto)} {t : TG} (ht : TgOk X.K cs t bind tg) (hs : ∀ i ∈ tg, i ∈ own) (hG0 : ∀ env st ds st', fi env st = some (ds, st') → G env st' st') :
    ∀ σ H Q, tO X.K cs (fCompG fi G own bind cond elt) σ H Q → tLc (tIG X.K cs fi G) t (tB X.K cs cond) (tE X.K cs elt) own σ H Q := fun σ H Q h =>
  (comp_ofGZ (Z := fun _ _ => True) ht hs hG0 σ H Q ⟨trivial, h⟩).2
theorem comp_of {fi : Env → Sto → Option (List D × Sto)} {own tg : List Nat} {bind : D → Env → Option Env} {cond : Env → Sto → Option (Bool × Sto)} {elt : Env → Sto → Option (Val × Sto)} {t : TG} (ht : TgOk X.K cs t bind tg) (hs : ∀ i ∈ tg, i ∈ own) :
    ∀ σ H Q, tO X.K cs (fComp fi own bind cond elt) σ H Q → tLc (tI X.K cs fi) t (tB X.K cs cond) (tE X.K cs elt) own σ H Q := by
  rw [← fCompG_any]
  exact comp_ofG ht hs fun _ _ _ _ _ => trivial
/-! ### statements -/
def tS (K : PySem.W.Frag) (cs : Nat → Option Addr) (f : Env → Sto → Option Out) : TS := fun D σ H => ∃ F B as env st o, Rel K cs F B as env st σ H ∧ f env st = some o ∧
  (∀ e' s', o = .nx e' s' → ∀ F' as' H' σ', Rel K cs F' B as' e' s' σ' H' → Ext F as H F' as' H' → D.nx σ' H') ∧
  (∀ v s', o = .rt v s' → ∀ F' as' H' u, RSt K cs F' B as' s' H' → Ext F as H F' as' H' → VOk K F' B as' v u → D.rt u H')
theorem _root_.L2.PS.weak {st : Stmt} {t t' : TS} (h : PS X st t) (w : ∀ D σ H, t' D σ H → t D σ H) : PS X st t' := ⟨fun pins s σ H D I q => h.run pins s σ H D I (w D σ H q)⟩
theorem _root_.L2.PSs.weak {st : List Stmt} {t t' : TS} (h : PSs X st t) (w : ∀ D σ H, t' D σ H → t D σ H) : PSs X st t' := ⟨fun pins s σ H D I q => h.run pins s σ H D I (w D σ H q)⟩
variable {ff : Env → Sto → Option Out} {gg : Env → Sto → Option Out}
theorem ss_nil : PSs X [] (tS X.K cs fun env st => some (.nx env st)) := pss_nil.weak fun D σ H ⟨F, B, as, env, st, o, r, ev, k1, k2⟩ => by
  cases ev
  exact k1 env st rfl F as H σ r r.refl
def fSeq (ff gg : Env → Sto → Option Out) : Env → Sto → Option Out := fun env st => (ff env st).bind fun o => match o with
    | .nx e s => gg e s
    | .rt v s => some (.rt v s)
theorem ss_cons {s : Stmt} {rest : List Stmt} (h1 : PS X s (tS X.K cs ff)) (h2 : PSs X rest (tS X.K cs gg)) : PSs X (s :: rest) (tS X.K cs (fSeq ff gg)) := (pss_cons h1 h2).weak fun D σ H ⟨F, B, as, env, st, o, r, ev, k1, k2⟩ => by
  obtain ⟨o1, e1, ev1⟩ := obnd ev
  refine ⟨F, B, as, env, st, o1, r, e1, fun e' s' eo F1 as1 H1 σ1 r1 x1 => ?_, fun v s' eo F1 as1 H1 u r1 x1 v1 => ?_⟩
  · subst eo
    exact ⟨F1, B, as1, e', s', o, r1, ev1, fun e2 s2 eo F2 as2 H2 σ2 r2 x2 => k1 e2 s2 eo F2 as2 H2 σ2 r2 (x1.trans x2), fun v s2 eo F2 as2 H2 u r2 x2 v2 => k2 v s2 eo F2 as2 H2 u r2 (x1.trans x2) v2⟩
  · subst eo
    cases ev1
    exact k2 v s' rfl F1 as1 H1 u r1 x1 v1
/-- a name's list is given up: no step of the program's -/
def fFrz (i : Nat) : Env → Sto → Option Out := fun env st => match env[i]? with
    | some (some v) => (toD v st).map fun q => .nx (env.set i (some (.dat q.1))) q.2
    | _ => none
theorem ss_frz {i : Nat} {rest : List Stmt} (h2 : PSs X rest (tS X.K cs gg)) : PSs X rest (tS X.K cs (fSeq (fFrz i) gg)) := h2.weak fun D σ H ⟨F, B, as, env, st, o, r, ev, k1, k2⟩ => by
  obtain ⟨o1, e1, ev1⟩ := obnd ev
  unfold fFrz at e1
  split at e1
  · rename_i v hv
    obtain ⟨⟨d, s1⟩, hd, eo⟩ := omap e1
    subst eo
    obtain ⟨u, hu, qv⟩ := r.slot i v hv
    obtain ⟨F1, r1, x1, q1⟩ := toD_ok r hd qv
    have r2 := r1.set' (i := i) (v := .dat d) (u := u) q1
    have e2 : σ.set i (some u) = σ := by
      obtain ⟨hl, e⟩ := List.getElem?_eq_some_iff.mp hu
      rw [← e]
      exact List.set_getElem_self hl
    rw [e2] at r2
    exact ⟨F1, B, as, _, s1, o, r2, ev1, fun e2 s2 eo F2 as2 H2 σ2 r2 x2 => k1 e2 s2 eo F2 as2 H2 σ2 r2 (x1.trans x2), fun v s2 eo F2 as2 H2 u r2 x2 v2 => k2 v s2 eo F2 as2 H2 u r2 (x1.trans x2) v2⟩
  · cases e1
def fSet (i : Nat) (f : Env → Sto → Option (Val × Sto)) : Env → Sto → Option Out := fun env st => (f env st).map fun r => .nx (env.set i (some r.1)) r.2
theorem set_of {i : Nat} : ∀ D σ H, tS X.K cs (fSet i f) D σ H → tAsg (tE X.K cs f) (gName i) D σ H := fun D σ H ⟨F, B, as, env, st, o, r, ev, k1, k2⟩ => by
  obtain ⟨⟨v, s1⟩, e1, ev1⟩ := omap ev
  exact ⟨F, B, as, env, st, v, s1, r, e1, fun F' as' H' u r' x' v1 => k1 _ _ ev1.symm F' as' H' _ (r'.set' v1) x'⟩
theorem s_set {i : Nat} {x : Str} {pos' : Pos} (hN : X.N.Nodup) (hi : X.N[i]? = some x) (hx : Loc X.env.scope x) (he : PE X e (tE X.K cs f)) (hs : swapsWith e (some (.Name x pos')) pos.line X.env = pure false) (hf : X.fn x = true ∨ X.env.scope.names.lookup x = some .local) :
    PS X (.Assign [.Name x pos'] e pos) (tS X.K cs (fSet i f)) := (ps_set hN hi hx he hs hf).weak set_of
/-- an exchange of two names, or two stored at once -/
def fPar (i j : Nat) (f1 f2 : Env → Sto → Option (Val × Sto)) : Env → Sto → Option Out := fun env st => (f1 env st).bind fun r => (f2 env r.2).map fun q => .nx ((env.set i (some r.1)).set j (some q.1)) q.2
theorem s_par {i j : Nat} {x y : Str} {px py pt : Pos} {kt k2 pt2} (hc : X.calm = true) (hN : X.N.Nodup) (hi : X.N[i]? = some x) (hj : X.N[j]? = some y) (hij : i ≠ j) (hx : X.env.scope.names.lookup x = some .local) (hy : X.env.scope.names.lookup y = some .local)
    (h1 : PE X e1 (tE X.K cs f1)) (h2 : PE X e2 (tE X.K cs f2)) (s1 : nStar e1 = true) (s2 : nStar e2 = true) (hsw : swappedStores [.Tuple [.Name x px, .Name y py] kt pt] (.Tuple [e1, e2] k2 pt2) X.env = pure (some [x, y])) :
    PS X (.Assign [.Tuple [.Name x px, .Name y py] kt pt] (.Tuple [e1, e2] k2 pt2) pos) (tS X.K cs (fPar i j f1 f2)) :=
  (ps_par hc hN hi hj hij hx hy (s_cons h1 (s_cons h2 s_nil s2) s1) hsw rfl).weak fun D σ H ⟨F, B, as, env, st, o, r, ev, k1, k2⟩ => by
    obtain ⟨⟨v, q1⟩, e1, ev1⟩ := obnd ev
    obtain ⟨⟨w, q2⟩, e2, ev2⟩ := omap ev1
    refine ⟨F, B, as, env, st, [v, w], q2, r, by simp [e1, e2], fun F' as' H' us r' x' v1 => ?_⟩
    obtain ⟨u, t, rfl, a, b⟩ := paired2 v1
    exact ⟨u, t, rfl, k1 _ _ ev2.symm F' as' H' _ ((r'.set' a).set' b) x'⟩
def fUnp (is : List Nat) (f : Env → Sto → Option (Val × Sto)) : Env → Sto → Option Out := fun env st => (f env st).bind fun r => (asU r.1).bind fun ds => (bindT.go is ds env).map fun e1 => .nx e1 r.2
theorem s_unp {is : List Nat} {ts : List Expr} {kt : Nat} {pt : Pos} (he : PE X e (tE X.K cs f)) (hg : PG X (.Tuple ts kt pt) (gTL X.K is)) (hs : swapsWithSole [.Tuple ts kt pt] e pos.line X.env = pure false) (hw : swappedStores [.Tuple ts kt pt] e X.env = pure none) : PS X (.Assign [.Tuple ts kt pt] e pos) (tS X.K cs (fUnp is f)) :=
  (ps_asg he hg hs hw).weak fun D σ H ⟨F, B, as, env, st, o, r, ev, k1, k2⟩ => by
    obtain ⟨⟨v, q1⟩, e1, ev1⟩ := obnd ev
    obtain ⟨ds, hd, ev2⟩ := obnd ev1
    obtain ⟨en, hb, ev3⟩ := omap ev2
    refine ⟨F, B, as, env, st, v, q1, r, e1, fun F' as' H' u r' x' v1 => ?_⟩
    unfold asU at hd
    split at hd
    · cases hd
      rename_i hv
      dsimp only at hv
      subst hv
      obtain ⟨p, us, rfl, hp, hq⟩ := Den.tup_iff.mp v1
      exact .inl ⟨p, us, rfl, .of (r'.fh _ _ hp), by rw [hq.length]; exact go_len hb, tg_names r' hq hb fun σ' r2 _ => k1 _ _ ev3.symm F' as' H' σ' r2 x'⟩
    · cases hd
      rename_i hv
      dsimp only at hv
      subst hv
      obtain ⟨p, us, rfl, hp, hq⟩ := Den.lst_iff.mp v1
      exact .inr ⟨p, us, rfl, .of (r'.fh _ _ hp), by rw [hq.length]; exact go_len hb, tg_names r' hq hb fun σ' r2 _ => k1 _ _ ev3.symm F' as' H' σ' r2 x'⟩
    · cases hd
def fExpr (f : Env → Sto → Option (Val × Sto)) : Env → Sto → Option Out := fun env st => (f env st).map fun r => .nx env r.2
theorem s_expr (he : PE X e (tE X.K cs f)) (hs : swapsWith e none pos.line X.env = pure false) : PS X (.Expr e pos) (tS X.K cs (fExpr f)) := (ps_expr he hs).weak fun D σ H ⟨F, B, as, env, st, o, r, ev, k1, k2⟩ => by
  obtain ⟨⟨v, s1⟩, e1, ev1⟩ := omap ev
  exact ⟨F, B, as, env, st, v, s1, r, e1, fun F' as' H' u r' x' v1 => k1 _ _ ev1.symm F' as' H' _ r' x'⟩
def fRet (f : Env → Sto → Option (Val × Sto)) : Env → Sto → Option Out := fun env st => (f env st).map fun r => .rt r.1 r.2
theorem s_ret (he : PE X e (tE X.K cs f)) : PS X (.Return (some e) pos) (tS X.K cs (fRet f)) := (ps_ret he).weak fun D σ H ⟨F, B, as, env, st, o, r, ev, k1, k2⟩ => by
  obtain ⟨⟨v, s1⟩, e1, ev1⟩ := omap ev
  exact ⟨F, B, as, env, st, v, s1, r, e1, fun F' as' H' u r' x' v1 => k2 _ _ ev1.symm F' as' H' u r'.toRSt x' v1⟩
theorem s_retN : PS X (.Return none pos) (tS X.K cs fun _ st => some (.rt (.dat .non) st)) := ps_retN.weak fun D σ H ⟨F, B, as, env, st, o, r, ev, k1, k2⟩ => by
  cases ev
  exact k2 _ _ rfl F as H _ r.toRSt r.refl vnon
theorem s_pass : PS X (.Pass pos) (tS X.K cs fun env st => some (.nx env st)) := ps_pass.weak fun D σ H ⟨F, B, as, env, st, o, r, ev, k1, k2⟩ => by
  cases ev
  exact k1 _ _ rfl F as H σ r r.refl
theorem s_nev {s : Stmt} : PS X s (tS X.K cs fun _ _ => none) := ps_never.weak fun D σ H ⟨F, B, as, env, st, o, r, ev, k1, k2⟩ => by cases ev
def fIf (c : Env → Sto → Option (Bool × Sto)) (ff gg : Env → Sto → Option Out) : Env → Sto → Option Out := fun env st => (c env st).bind fun r => if r.1 then ff env r.2 else gg env r.2
theorem s_if {c : Env → Sto → Option (Bool × Sto)} {a b : List Stmt} (hc : PT X e (tB X.K cs c)) (ha : PSs X a (tS X.K cs ff)) (hb : PSs X b (tS X.K cs gg)) : PS X (.If e a b pos) (tS X.K cs (fIf c ff gg)) := (ps_if hc ha hb).weak fun D σ H ⟨F, B, as, env, st, o, r, ev, k1, k2⟩ => by
  obtain ⟨⟨b, s1⟩, e1, ev1⟩ := obnd ev
  refine ⟨F, B, as, env, st, b, s1, r, e1, fun F1 as1 H1 r1 x1 => ?_⟩
  dsimp only at ev1
  cases b
  · rw [if_neg Bool.false_ne_true] at ev1 ⊢
    exact ⟨F1, B, as1, env, s1, o, r1, ev1, fun e2 s2 eo F2 as2 H2 σ2 r2 x2 => k1 e2 s2 eo F2 as2 H2 σ2 r2 (x1.trans x2), fun v s2 eo F2 as2 H2 u r2 x2 v2 => k2 v s2 eo F2 as2 H2 u r2 (x1.trans x2) v2⟩
  · rw [if_pos rfl] at ev1 ⊢
    exact ⟨F1, B, as1, env, s1, o, r1, ev1, fun e2 s2 eo F2 as2 H2 σ2 r2 x2 => k1 e2 s2 eo F2 as2 H2 σ2 r2 (x1.trans x2), fun v s2 eo F2 as2 H2 u r2 x2 v2 => k2 v s2 eo F2 as2 H2 u r2 (x1.trans x2) v2⟩
theorem s_while {c : Env → Sto → Option (Bool × Sto)} {b : List Stmt} (hp : PassesOwn (model X.prog X.w) X.A X.env X.xe) (hc : PT X e (tB X.K cs c)) (hb : PSs X b (tS X.K cs ff)) : PS X (.While e b [] pos) (tS X.K cs fun env st => whV c ff env st) := (ps_while hp hc hb).weak fun D σ H ⟨F, B, as, env, st, o, r, ev, k1, k2⟩ => by
  obtain ⟨n, hn⟩ := whV_some c ff ev
  refine ⟨fun m σ2 H2 => ∃ F2 as2 env2 st2, Rel X.K cs F2 B as2 env2 st2 σ2 H2 ∧ Ext F as H F2 as2 H2 ∧ whI c ff m env2 st2 = some o, ⟨n, F, as, env, st, r, r.refl, hn⟩, fun m σ2 H2 ⟨F2, as2, env2, st2, r2, x2, hm⟩ => ?_⟩
  cases m with
  | zero => simp [whI] at hm
  | succ m =>
    simp only [whI] at hm
    obtain ⟨⟨b, s1⟩, e1, hm⟩ := obnd hm
    refine ⟨F2, B, as2, env2, st2, b, s1, r2, e1, fun F3 as3 H3 r3 x3 => ?_⟩
    dsimp only at hm
    cases b
    · rw [if_neg Bool.false_ne_true] at hm
      cases hm
      show D.nx σ2 H3
      exact k1 _ _ rfl F3 as3 H3 σ2 r3 (x2.trans x3)
    · rw [if_pos rfl] at hm
      obtain ⟨o2, e2, hm⟩ := obnd hm
      refine ⟨_, fun σ4 H4 h => h, ?_⟩
      refine ⟨F3, B, as3, env2, s1, o2, r3, e2, fun e4 s4 eo F4 as4 H4 σ4 r4 x4 => ?_, fun v s4 eo F4 as4 H4 u r4 x4 v4 => ?_⟩
      · subst eo
        exact ⟨m, Nat.lt_succ_self _, F4, as4, e4, s4, r4, (x2.trans x3).trans x4, hm⟩
      · subst eo
        cases hm
        exact k2 v s4 rfl F4 as4 H4 u r4 ((x2.trans x3).trans x4) v4
def fFor (fi : Env → Sto → Option (List D × Sto)) (bind : D → Env → Option Env) (ff : Env → Sto → Option Out) : Env → Sto → Option Out := fun env st => (fi env st).bind fun r => forV bind ff r.1 env r.2
noncomputable def fForG (fi : Env → Sto → Option (List D × Sto)) (G : Env → Sto → Sto → Prop) (bind : D → Env → Option Env) (ff : Env → Sto → Option Out) : Env → Sto → Option Out := fun env st => (fi env st).bind fun r => forG (G env r.2) bind ff r.1 env r.2
theorem s_forGZ {Z : L2.St → Hp → Prop} {fi : Env → Sto → Option (List D × Sto)} {G : Env → Sto → Sto → Prop} {bind : D → Env → Option Env} {t : TG} {tgl : List Nat} {tg it : Expr} {b : List Stmt} (hp : PassesOwn (model X.prog X.w) X.A X.env X.xe) (hc : X.calm = true) (hi : PI X tg it fun σ H R => Z σ H ∧ tIG X.K cs fi G σ H R) (hg : PG X tg t) (ht : TgOk X.K cs t bind tgl) (hb : PSs X b (tS X.K cs ff))
    (hs : ∀ x, foldedSetIterable it X.env x = pure x) (hG0 : ∀ env st ds st', fi env st = some (ds, st') → G env st' st') : PS X (.For tg it b [] pos) (fun D σ H => Z σ H ∧ tS X.K cs (fForG fi G bind ff) D σ H) := (ps_for hp hc hi hg hb hs).weak fun D σ H ⟨hZ, F, B, as, env, st, o, r, ev, k1, k2⟩ => by
  obtain ⟨⟨ds, s1⟩, hfi, ev1⟩ := obnd ev
  refine ⟨hZ, F, B, as, env, st, ds, s1, r, hfi, fun F1 as1 H1 J r1 x1 Y hlen => ?_⟩
  refine ⟨fun i m σ2 H2 => m = ds.length - i ∧ i ≤ ds.length ∧ ∃ F2 as2 env2 st2, Rel X.K cs F2 B as2 env2 st2 σ2 H2 ∧ Ext F1 as1 H1 F2 as2 H2 ∧ forG (G env s1) bind ff (ds.drop i) env2 st2 = some o ∧ G env s1 st2, ⟨ds.length, by omega, Nat.zero_le _, F1, as1, env, s1, r1, r1.refl, ev1, hG0 _ _ _ _ hfi⟩, ?_⟩
  rintro i m σ2 H2 ⟨rfl, hi, F2, as2, env2, st2, r2, x2, hf, hGs⟩
  by_cases hlt : i < ds.length
  · have hd : ds[i]? = some ds[i] := List.getElem?_eq_getElem hlt
    generalize hdd : ds[i] = d at hd
    rw [List.drop_eq_getElem_cons hlt, hdd] at hf
    simp only [forG] at hf
    obtain ⟨e1, hb1, hf⟩ := obnd hf
    obtain ⟨o2, hb2, hf⟩ := obnd hf
    refine .inr ⟨Y.go i d x2.ff x2.pre hGs r2.toRSt hd, _, fun σ' H' p => ⟨ds.length - (i + 1), by omega, rfl, hlt, p⟩, fun x H3 y => ?_⟩
    obtain ⟨F3, r3, x3, qx⟩ := Y.yld i d x H3 x2.ff x2.pre hGs r2.toRSt hd y
    refine ht (r2.slots x3 r3) qx hb1 fun σ' r4 _ => ?_
    refine ⟨F3, B, as2, e1, st2, o2, r4, hb2, fun e4 s4 eo F4 as4 H4 σ4 r5 x4 => ?_, fun v s4 eo F4 as4 H4 u r5 x4 v4 => ?_⟩
    · subst eo
      dsimp only at hf
      split at hf
      case isFalse => cases hf
      rename_i hGn
      exact ⟨F4, as4, e4, s4, r5, (x2.trans x3).trans x4, hf, hGn⟩
    · subst eo
      cases hf
      exact k2 v s4 rfl F4 as4 H4 u r5 (((x1.trans x2).trans x3).trans x4) v4
  · have hie : i = ds.length := by omega
    subst hie
    rw [List.drop_length] at hf
    simp only [forG] at hf
    cases hf
    exact .inl ⟨Y.stop _ x2.ff x2.pre hGs r2.toRSt rfl, k1 _ _ rfl F2 as2 H2 σ2 r2 (x1.trans x2)⟩
theorem s_forG {fi : Env → Sto → Option (List D × Sto)} {G : Env → Sto → Sto → Prop} {bind : D → Env → Option Env} {t : TG} {tgl : List Nat} {tg it : Expr} {b : List Stmt} (hp : PassesOwn (model X.prog X.w) X.A X.env X.xe) (hc : X.calm = true) (hi : PI X tg it (tIG X.K cs fi G)) (hg : PG X tg t) (ht : TgOk X.K cs t bind tgl) (hb : PSs X b (tS X.K cs ff))
    (hs : ∀ x, foldedSetIterable it X.env x = pure x) (hG0 : ∀ env st ds st', fi env st = some (ds, st') → G env st' st') : PS X (.For tg it b [] pos) (tS X.K cs (fForG fi G bind ff)) :=
  (s_forGZ (Z := fun _ _ => True) hp hc (hi.weak fun σ H R h => h.2) hg ht hb hs hG0).weak fun D σ H h => ⟨trivial, h⟩
theorem fForG_any {fi : Env → Sto → Option (List D × Sto)} {bind : D → Env → Option Env} {ff : Env → Sto → Option Out} : fForG fi anyG bind ff = fFor fi bind ff := by
  funext env st
  simp only [fForG, fFor, anyG, forG_any]
theorem s_for {fi : Env → Sto → Option (List D × Sto)} {bind : D → Env → Option Env} {t : TG} {tgl : List Nat} {tg it : Expr} {b : List Stmt} (hp : PassesOwn (model X.prog X.w) X.A X.env X.xe) (hc : X.calm = true) (hi : PI X tg it (tI X.K cs fi)) (hg : PG X tg t) (ht : TgOk X.K cs t bind tgl) (hb : PSs X b (tS X.K cs ff))
    (hs : ∀ x, foldedSetIterable it X.env x = pure x) : PS X (.For tg it b [] pos) (tS X.K cs (fFor fi bind ff)) := by
  rw [← fForG_any]
  exact s_forG hp hc hi hg ht hb hs fun _ _ _ _ _ => trivial
end
end NK
set_option Elab.async false
set_option linter.all false
set_option autoImplicit false
set_option maxRecDepth 100000
/-! NkK: stores, built-ins. -/
namespace NK
open PySem PySem.Spec PyProof.Rows L2
/-! ### a dict's store, as lists -/
theorem zip_any {κ κ' : Type} [DecidableEq κ] [DecidableEq κ'] {g : κ → κ'} (hg : ∀ a b, g a = g b → a = b) : ∀ {ks : List κ} {us : List V} (k : κ), ks.length = us.length → ((((ks.map g).zip us)).any fun kv => decide (kv.1 = g k)) = decide (k ∈ ks)
  | [], _, k, _ => by simp
  | j :: ks, [], k, h => by simp at h
  | j :: ks, u :: us, k, h => by
    rw [List.map_cons, List.zip_cons_cons, List.any_cons, zip_any hg k (by simpa using h)]
    rw [Bool.eq_iff_iff]
    simp only [Bool.or_eq_true, decide_eq_true_eq, List.mem_cons]
    constructor
    · rintro (e | e)
      · exact .inl (hg _ _ e).symm
      · exact .inr e
    · rintro (e | e)
      · exact .inl (by rw [e])
      · exact .inr e
theorem dset_zip {κ κ' : Type} [DecidableEq κ] [DecidableEq κ'] {g : κ → κ'} (hg : ∀ a b, g a = g b → a = b) {K : PySem.W.Frag} {F : Hp} {d : D} {u : V} (q : Den K F d u) : ∀ {ks : List κ} {ds : List D} {us : List V} (k : κ), ks.length = ds.length → Dens K F ds us →
    ∃ us', ((ks.map g).zip us).map (fun kv => if kv.1 = g k then (kv.1, u) else kv) = (ks.map g).zip us' ∧ Dens K F (dsetK ks ds k d) us' ∧ (dsetK ks ds k d).length = ks.length
  | [], [], us, k, _, h => ⟨[], by simp, by simp [dsetK, Dens], rfl⟩
  | [], _ :: _, _, _, h, _ => by simp at h
  | _ :: _, [], _, _, h, _ => by simp at h
  | j :: ks, x :: ds, us, k, h, q2 => by
    obtain ⟨w, us', rfl, a, b⟩ := Dens.cons.mp q2
    obtain ⟨us2, h1, h2, h3⟩ := dset_zip hg q (ks := ks) (ds := ds) (us := us') k (by simpa using h) b
    rw [List.map_cons, List.zip_cons_cons, List.map_cons, h1]
    by_cases e : j = k
    · subst e
      refine ⟨u :: us2, by simp, ?_, by simp [dsetK, h3]⟩
      simp only [dsetK, if_pos]
      exact Dens.cons.mpr ⟨u, us2, rfl, q, h2⟩
    · have e2 : ¬ g j = g k := fun z => e (hg _ _ z)
      refine ⟨w :: us2, by simp [e2], ?_, by simp [dsetK, h3]⟩
      simp only [dsetK, if_neg e]
      exact Dens.cons.mpr ⟨w, us2, rfl, a, h2⟩
theorem dput_zip {κ κ' : Type} [DecidableEq κ] [DecidableEq κ'] {g : κ → κ'} (hg : ∀ a b, g a = g b → a = b) {K : PySem.W.Frag} {F : Hp} {d : D} {u : V} (q : Den K F d u) {ks : List κ} {ds : List D} {us : List V} (k : κ) (h : ks.length = ds.length) (b : Dens K F ds us) :
    ∃ us', putK ((ks.map g).zip us) (g k) u = ((dputK ks ds k d).1.map g).zip us' ∧ (dputK ks ds k d).1.length = (dputK ks ds k d).2.length ∧ Dens K F (dputK ks ds k d).2 us' := by
  unfold putK dputK
  rw [zip_any hg k (by rw [h, b.length])]
  by_cases e : k ∈ ks
  · rw [if_pos (by simpa using e), if_pos e]
    obtain ⟨us', h1, h2, h3⟩ := dset_zip hg q k h b
    exact ⟨us', h1, h3.symm, h2⟩
  · rw [if_neg (by simpa using e), if_neg e]
    refine ⟨us ++ [u], ?_, by simp [h], b.append (Dens.one q)⟩
    rw [List.map_append, List.zip_append (by rw [List.length_map, h, b.length])]
    rfl
section
variable {X : Cx} {cs : Nat → Option Addr} {e e1 e2 e3 : Expr} {es : List Expr} {f f1 f2 f3 : Env → Sto → Option (Val × Sto)} {g : Env → Sto → Option (List Val × Sto)} {pos : Pos}
/-! ### a[k] = v -/
theorem asgSub {o i : Expr} {p : Pos} (h : nSlice i = true) : ∀ v, assign (.Subscript o i p) X.env v = (do
      let ov ← holding [v] (eval o X.env)
      let iv ← holding [v, ov] (eval i X.env)
      standAt p
      holding [v, ov, iv] (setItem ov iv v)
      release [v, ov, iv] []) := fun v => by cases i <;> first | rfl | simp [nSlice] at h
def fSub (fo fk fv : Env → Sto → Option (Val × Sto)) : Env → Sto → Option Out := fun env st => (fv env st).bind fun r => (toD r.1 r.2).bind fun d => (fo env d.2).bind fun p => (fk env p.2).bind fun q => (storeV p.1 q.1 d.1 q.2).map fun s => .nx env s
theorem s_sub {pos' : Pos} (hu : X.A.units + 200 < cLine) (ho : PE X e1 (tE X.K cs f1)) (hk : PE X e2 (tE X.K cs f2)) (hv : PE X e3 (tE X.K cs f3)) (hn : nSlice e2 = true) (hs : swapsWith e3 (some (.Subscript e1 e2 pos')) pos.line X.env = pure false) (hw : swappedStores [.Subscript e1 e2 pos'] e3 X.env = pure none) :
    PS X (.Assign [.Subscript e1 e2 pos'] e3 pos) (tS X.K cs (fSub f1 f2 f3)) := by
  refine ⟨fun pins s σ H D I h => ?_⟩
  obtain ⟨F, B, as, env, st, o, r, ev, k1, k2⟩ := h
  obtain ⟨⟨v, s1⟩, hv1, ev1⟩ := obnd ev
  obtain ⟨⟨d, s2⟩, hd, ev2⟩ := obnd ev1
  obtain ⟨⟨p, s3⟩, ho1, ev3⟩ := obnd ev2
  obtain ⟨⟨q, s4⟩, hk1, ev4⟩ := obnd ev3
  obtain ⟨s5, hst, ev5⟩ := omap ev4
  clear ev ev1 ev2 ev3 ev4
  dsimp only at hv1 hd ho1 hk1 hst
  have three : ∀ (R : V → V → V → Hp → Prop), (∀ F' as' H' u w x, Rel X.K cs F' B as' env s4 σ H' → Ext F as H F' as' H' → Den X.K F' d u → VOk X.K F' B as' p w → VOk X.K F' B as' q x → R u w x H') →
      tE X.K cs f3 σ H fun u H1 => tE X.K cs f1 σ H1 fun w H2 => tE X.K cs f2 σ H2 fun x H3 => R u w x H3 := fun R hR =>
    ⟨F, B, as, env, st, v, s1, r, hv1, fun F1 as1 H1 u r1 x1 v1 => by
      obtain ⟨F2, r2, x2, q2⟩ := toD_ok r1 hd v1
      exact ⟨F2, B, as1, env, s2, p, s3, r2, ho1, fun F3 as3 H3 w r3 x3 v3 => ⟨F3, B, as3, env, s3, q, s4, r3, hk1, fun F4 as4 H4 x r4 x4 v4 =>
        hR F4 as4 H4 u w x r4 (((x1.trans x2).trans x3).trans x4) (Den.mono (fun a o h => x4.ff _ _ (x3.ff _ _ h)) _ _ q2) (v3.ext x4) v4⟩⟩⟩
  unfold storeV at hst
  split at hst
  case h_2 => cases hst
  rename_i l kd
  split at hst
  · rename_i ds hl
    split at hst
    case h_2 => cases hst
    rename_i i
    obtain ⟨j, hj, e⟩ := omap hst
    subst e
    refine (ps_asg hv (pg_sub ho hk set_list (asgSub hn)) hs hw).run pins s σ H D I ?_
    refine three (fun u w x H3 => rSetL w x u H3 fun H4 => D.nx σ H4) fun F' as' H' u w x r' x' qd vw vx => ?_
    obtain ⟨a, ea, rfl⟩ := vw
    obtain ⟨_, ho', e1, us, rfl, hq⟩ := r'.obj l a _ ea hl
    refine ⟨a, us, i, j, rfl, int_of vx, e1, by rw [hq.length]; exact hj, ?_⟩
    obtain ⟨r2, x2⟩ := r'.toRSt.write (o' := .lst (ds.set j d)) (ho := .lst (us.set j u)) ea hl (by simp) ⟨_, rfl, hq.set j qd⟩
    exact k1 _ _ ev5.symm F' as' _ σ (r'.slots x2 r2) (x'.trans x2)
  · rename_i ks ds hl
    obtain ⟨k0, hk0, hst⟩ := obnd hst
    split at hst
    case isFalse => cases hst
    rename_i hlen
    cases hst
    refine (ps_dput (by omega) ho hk hv hs).run pins s σ H D I ?_
    refine three (fun u w x H3 => ∃ a H4, w = .ref a ∧ DPut H3 a x u H4 ∧ D.nx σ H4) fun F' as' H' u w x r' x' qd vw vx => ?_
    obtain ⟨a, ea, rfl⟩ := vw
    obtain ⟨_, ho', e1, us, rfl, hle, hq⟩ := r'.obj l a _ ea hl
    obtain ⟨us', h1, h2, h3⟩ := dput_zip (g := kk) (fun _ _ => kk_inj) qd k0 hle hq
    refine ⟨a, _, rfl, .inl ⟨_, kk k0, e1, toK_ok hk0 vx, ?_, rfl⟩, ?_⟩
    · rw [List.length_zip, List.length_map, hq.length, ← hle, Nat.min_self, ← line_eq]; exact hlen
    · rw [h1]
      obtain ⟨r2, x2⟩ := r'.toRSt.write (o' := .dK (dputK ks ds k0 d).1 (dputK ks ds k0 d).2) (ho := .dK (((dputK ks ds k0 d).1.map kk).zip us')) ea hl (by simp) ⟨us', rfl, h2, h3⟩
      exact k1 _ _ ev5.symm F' as' _ σ (r'.slots x2 r2) (x'.trans x2)
  · rename_i ks ds hl
    obtain ⟨k0, hk0, hst⟩ := obnd hst
    split at hst
    case isFalse => cases hst
    rename_i hlen
    cases hst
    refine (ps_dput (by omega) ho hk hv hs).run pins s σ H D I ?_
    refine three (fun u w x H3 => ∃ a H4, w = .ref a ∧ DPut H3 a x u H4 ∧ D.nx σ H4) fun F' as' H' u w x r' x' qd vw vx => ?_
    obtain ⟨a, ea, rfl⟩ := vw
    obtain ⟨_, ho', e1, us, rfl, hle, hq⟩ := r'.obj l a _ ea hl
    obtain ⟨us', h1, h2, h3⟩ := dput_zip (g := fun l : List K1 => l.map kk) (fun _ _ => kk_map_inj) qd k0 hle hq
    obtain ⟨c, rfl, hc⟩ := toTK_ok hk0 vx
    refine ⟨a, _, rfl, .inr ⟨_, k0.map kk, c, e1, rfl, r'.fh _ _ hc, ?_, rfl⟩, ?_⟩
    · rw [List.length_zip, List.length_map, hq.length, ← hle, Nat.min_self, ← line_eq]; exact hlen
    · rw [h1]
      obtain ⟨r2, x2⟩ := r'.toRSt.write (o' := .dT (dputK ks ds k0 d).1 (dputK ks ds k0 d).2) (ho := .dT (((dputK ks ds k0 d).1.map (·.map kk)).zip us')) ea hl (by simp) ⟨us', rfl, h2, h3⟩
      exact k1 _ _ ev5.symm F' as' _ σ (r'.slots x2 r2) (x'.trans x2)
  · cases hst
/-! ### x += e -/
def fAug (i : Nat) (o : BOp) (f : Env → Sto → Option (Val × Sto)) : Env → Sto → Option Out := fun env st => match env[i]? with
    | some (some (.dat (.int x))) => (f env st).bind fun r => (intOf r.1).bind fun y => match o with
      | .add => some (.nx (env.set i (some (.dat (.int (x + y))))) r.2)
      | .sub => some (.nx (env.set i (some (.dat (.int (x - y))))) r.2)
      | _ => none
    | _ => none
theorem s_aug {i : Nat} {x : Str} {pos' : Pos} {o : BOp} (hN : X.N.Nodup) (hi : X.N[i]? = some x) (hx : Loc X.env.scope x) (he : PE X e (tE X.K cs f)) (hf : X.fn x = true ∨ X.env.scope.names.lookup x = some .local) :
    PS X (.AugAssign (.Name x pos') (opB o) e pos) (tS X.K cs (fAug i o f)) := by
  refine ⟨fun pins s σ H D I h => ?_⟩
  obtain ⟨F, B, as, env, st, ou, r, ev, k1, k2⟩ := h
  unfold fAug at ev
  split at ev
  case h_2 => cases ev
  rename_i x0 hx0
  obtain ⟨⟨v, s1⟩, e1, ev1⟩ := obnd ev
  obtain ⟨y, hy, ev2⟩ := obnd ev1
  clear ev ev1
  have hy := intOf_eq hy
  dsimp only at hy
  subst hy
  obtain ⟨u, hu, qu⟩ := r.slot i _ hx0
  split at ev2
  · cases ev2
    exact (ps_aug hN hi hx he ip_add hf).run pins s σ H D I ⟨u, hu, F, B, as, env, st, _, s1, r, e1, fun F' as' H' w r' x' v1 => ⟨x0, y, int_of qu, int_of v1, k1 _ _ rfl F' as' H' _ (r'.set' vint) x'⟩⟩
  · cases ev2
    exact (ps_aug hN hi hx he ip_sub hf).run pins s σ H D I ⟨u, hu, F, B, as, env, st, _, s1, r, e1, fun F' as' H' w r' x' v1 => ⟨x0, y, int_of qu, int_of v1, k1 _ _ rfl F' as' H' _ (r'.set' vint) x'⟩⟩
  · cases ev2
theorem ip_ext : PIp X .Add (fun x y H Q => rExt2 x y H Q) := fun pins s σ H x y v u Q I rx ry q => iop_ext pins s σ H x y v u Q I rx ry q
def fExt (i : Nat) (f : Env → Sto → Option (Val × Sto)) : Env → Sto → Option Out := fun env st => match env[i]? with
    | some (some (.ref l)) => (f env st).bind fun r => (extV l r.1 r.2).map fun s => .nx env s
    | _ => none
theorem s_ext {i : Nat} {x : Str} {pos' : Pos} (hN : X.N.Nodup) (hi : X.N[i]? = some x) (hx : Loc X.env.scope x) (he : PE X e (tE X.K cs f)) (hf : X.fn x = true ∨ X.env.scope.names.lookup x = some .local) :
    PS X (.AugAssign (.Name x pos') .Add e pos) (tS X.K cs (fExt i f)) := (ps_aug hN hi hx he ip_ext hf).weak fun D σ H ⟨F, B, as, env, st, ou, r, ev, k1, k2⟩ => by
  unfold fExt at ev
  split at ev
  case h_2 => cases ev
  rename_i l hl
  obtain ⟨⟨v, s1⟩, e1, ev1⟩ := obnd ev
  obtain ⟨s2, hs, ev2⟩ := omap ev1
  clear ev ev1
  obtain ⟨u, hu, a, ea, rfl⟩ := r.slot i _ hl
  refine ⟨.ref a, hu, F, B, as, env, st, v, s1, r, e1, fun F' as' H' w r' x' v1 => ?_⟩
  unfold extV at hs
  split at hs
  case h_2 => cases hs
  rename_i ds hd
  obtain ⟨es, hes, hs⟩ := obnd hs
  split at hs
  case isFalse => cases hs
  rename_i hlen
  cases hs
  obtain ⟨b, zs, rfl, hb, hz⟩ := asX_ok r'.toRSt hes v1
  have ea' := pre_get x'.pre ea
  obtain ⟨_, ho', e3, us, rfl, hq⟩ := r'.obj l a _ ea' hd
  refine ⟨a, b, us, zs, rfl, rfl, e3, hb, by rw [hq.length, hz.length, ← line_eq]; exact hlen, ?_⟩
  obtain ⟨r2, x2⟩ := r'.toRSt.write (o' := .lst (ds ++ es)) (ho := .lst (us ++ zs)) ea' hd (by simp) ⟨_, rfl, hq.append hz⟩
  have r3 := (r'.slots x2 r2).set' (i := i) (v := .ref l) (u := .ref a) ⟨a, ea', rfl⟩
  have e4 : env.set i (some (.ref l)) = env := by
    obtain ⟨hl', e⟩ := List.getElem?_eq_some_iff.mp hl
    rw [← e]
    exact List.set_getElem_self hl'
  rw [e4] at r3
  exact k1 _ _ ev2.symm F' as' _ _ r3 (x'.trans x2)
/-! ### built-ins -/
theorem intsD_ok {K : PySem.W.Frag} {F : Hp} : ∀ {ds : List D} {ns : List Int} {us : List V}, intsD ds = some ns → Dens K F ds us → us = ns.map V.int
  | [], ns, us, h, q => by simp only [intsD] at h; cases h; rw [Dens.nil.mp q]; rfl
  | .int i :: ds, ns, us, h, q => by
    simp only [intsD] at h
    obtain ⟨ms, hm, e⟩ := omap h
    subst e
    obtain ⟨u, us', rfl, a, b⟩ := Dens.cons.mp q
    rw [Den.int_iff.mp a, intsD_ok hm b]; rfl
  | .non :: _, _, _, h, _ => by simp [intsD] at h
  | .bl _ :: _, _, _, h, _ => by simp [intsD] at h
  | .str _ :: _, _, _, h, _ => by simp [intsD] at h
  | .tup _ :: _, _, _, h, _ => by simp [intsD] at h
  | .lst _ :: _, _, _, h, _ => by simp [intsD] at h
  | .dK _ _ :: _, _, _, h, _ => by simp [intsD] at h
  | .dT _ _ :: _, _, _, h, _ => by simp [intsD] at h
  | .scr _ :: _, _, _, h, _ => by simp [intsD] at h
theorem boolsD_ok {K : PySem.W.Frag} {F : Hp} : ∀ {ds : List D} {ns : List Bool} {us : List V}, boolsD ds = some ns → Dens K F ds us → us = ns.map V.bl
  | [], ns, us, h, q => by simp only [boolsD] at h; cases h; rw [Dens.nil.mp q]; rfl
  | .bl i :: ds, ns, us, h, q => by
    simp only [boolsD] at h
    obtain ⟨ms, hm, e⟩ := omap h
    subst e
    obtain ⟨u, us', rfl, a, b⟩ := Dens.cons.mp q
    rw [Den.bl_iff.mp a, boolsD_ok hm b]; rfl
  | .non :: _, _, _, h, _ => by simp [boolsD] at h
  | .int _ :: _, _, _, h, _ => by simp [boolsD] at h
  | .str _ :: _, _, _, h, _ => by simp [boolsD] at h
  | .tup _ :: _, _, _, h, _ => by simp [boolsD] at h
  | .lst _ :: _, _, _, h, _ => by simp [boolsD] at h
  | .dK _ _ :: _, _, _, h, _ => by simp [boolsD] at h
  | .dT _ _ :: _, _, _, h, _ => by simp [boolsD] at h
  | .scr _ :: _, _, _, h, _ => by simp [boolsD] at h
theorem textsD_ok {K : PySem.W.Frag} {F : Hp} : ∀ {ds : List D} {ns : List W} {us : List V}, textsD ds = some ns → Dens K F ds us → us = (ns.map S).map V.str
  | [], ns, us, h, q => by simp only [textsD] at h; cases h; rw [Dens.nil.mp q]; rfl
  | .str i :: ds, ns, us, h, q => by
    simp only [textsD] at h
    obtain ⟨ms, hm, e⟩ := omap h
    subst e
    obtain ⟨u, us', rfl, a, b⟩ := Dens.cons.mp q
    rw [Den.str_iff.mp a, textsD_ok hm b]; rfl
  | .non :: _, _, _, h, _ => by simp [textsD] at h
  | .int _ :: _, _, _, h, _ => by simp [textsD] at h
  | .bl _ :: _, _, _, h, _ => by simp [textsD] at h
  | .tup _ :: _, _, _, h, _ => by simp [textsD] at h
  | .lst _ :: _, _, _, h, _ => by simp [textsD] at h
  | .dK _ _ :: _, _, _, h, _ => by simp [textsD] at h
  | .dT _ _ :: _, _, _, h, _ => by simp [textsD] at h
  | .scr _ :: _, _, _, h, _ => by simp [textsD] at h
theorem dens_texts {K : PySem.W.Frag} {F : Hp} (ws : List W) : Dens K F (ws.map .str) ((ws.map S).map V.str) := by
  induction ws with
  | nil => exact Dens.nil.mpr rfl
  | cons w ws ih => exact Dens.cons.mpr ⟨_, _, rfl, Den.str_iff.mpr rfl, ih⟩
theorem ltW_cpsT : ∀ a b : W, ltCps a b = ltW a b
  | [], [] => rfl
  | [], _ :: _ => rfl
  | _ :: _, [] => rfl
  | a :: r, b :: t => by simp only [ltCps, ltW, ltW_cpsT r t]
theorem ltW_irrefl : ∀ a : W, ltW a a = false
  | [] => rfl
  | a :: r => by simp [ltW, ltW_irrefl r]
theorem ltW_trans : ∀ {a b c : W}, ltW a b = true → ltW b c = true → ltW a c = true
  | [], [], _, h, _ => by simp [ltW] at h
  | [], _ :: _, [], _, h => by simp [ltW] at h
  | [], _ :: _, _ :: _, _, _ => rfl
  | _ :: _, [], _, h, _ => by simp [ltW] at h
  | _ :: _, _ :: _, [], _, h => by simp [ltW] at h
  | a :: r, b :: t, c :: u, h1, h2 => by
    simp only [ltW, Bool.or_eq_true, decide_eq_true_eq, Bool.and_eq_true, beq_iff_eq] at h1 h2 ⊢
    rcases h1 with h1 | ⟨e1, h1⟩
    · rcases h2 with h2 | ⟨e2, h2⟩
      · exact .inl (by omega)
      · exact .inl (by omega)
    · rcases h2 with h2 | ⟨e2, h2⟩
      · exact .inl (by omega)
      · exact .inr ⟨by omega, ltW_trans h1 h2⟩
theorem ltW_total : ∀ a b : W, ltW a b = true ∨ a = b ∨ ltW b a = true
  | [], [] => .inr (.inl rfl)
  | [], _ :: _ => .inl rfl
  | _ :: _, [] => .inr (.inr rfl)
  | a :: r, b :: t => by
    simp only [ltW, Bool.or_eq_true, decide_eq_true_eq, Bool.and_eq_true, beq_iff_eq, List.cons.injEq]
    rcases Nat.lt_trichotomy a b with h | h | h
    · exact .inl (.inl h)
    · subst h
      rcases ltW_total r t with h | h | h
      · exact .inl (.inr ⟨rfl, h⟩)
      · exact .inr (.inl ⟨rfl, h⟩)
      · exact .inr (.inr (.inr ⟨rfl, h⟩))
    · exact .inr (.inr (.inl h))
theorem ltW_le_trans {a b c : W} (h1 : ltW b a = false) (h2 : ltW c b = false) : ltW c a = false := by
  cases h : ltW c a with
  | false => rfl
  | true =>
    rcases ltW_total a b with q | q | q
    · rw [ltW_trans h q] at h2; cases h2
    · subst q; rw [h] at h2; cases h2
    · rw [q] at h1; cases h1
/-- rising, not strictly -/
def RisW (ws : List W) : Prop := ws.Pairwise fun a b => ltW b a = false
theorem insW_perm (x : W) : ∀ ws : List W, (insW x ws).Perm (x :: ws)
  | [] => .refl _
  | y :: ys => by
    unfold insW
    split
    · exact ((insW_perm x ys).cons y).trans (.swap x y ys)
    · exact .refl _
theorem sortW_perm : ∀ ws : List W, (sortW ws).Perm ws
  | [] => .refl _
  | x :: xs => by
    show (insW x (sortW xs)).Perm (x :: xs)
    exact (insW_perm x _).trans ((sortW_perm xs).cons x)
theorem insW_ris {x : W} : ∀ {ws : List W}, RisW ws → RisW (insW x ws)
  | [], _ => List.pairwise_singleton _ _
  | y :: ys, h => by
    obtain ⟨h1, h2⟩ := List.pairwise_cons.mp h
    unfold insW
    split
    · rename_i hy
      refine List.pairwise_cons.mpr ⟨fun z hz => ?_, insW_ris h2⟩
      rcases List.mem_cons.mp ((insW_perm x ys).mem_iff.mp hz) with e | hz
      · subst e
        cases q : ltW z y with
        | false => rfl
        | true => have := ltW_trans q hy; rw [ltW_irrefl] at this; cases this
      · exact h1 z hz
    · rename_i hy
      have hy : ltW y x = false := by simpa using hy
      refine List.pairwise_cons.mpr ⟨fun z hz => ?_, h⟩
      rcases List.mem_cons.mp hz with e | hz
      · subst e; exact hy
      · exact ltW_le_trans hy (h1 z hz)
theorem sortW_ris : ∀ ws : List W, RisW (sortW ws)
  | [] => .nil
  | x :: xs => insW_ris (sortW_ris xs)
theorem ris_unique : ∀ {as bs : List W}, as.Perm bs → RisW as → RisW bs → as = bs
  | [], bs, p, _, _ => by rw [List.nil_perm.mp p]
  | a :: as, [], p, _, _ => absurd p.length_eq (by simp)
  | a :: as, b :: bs, p, ha, hb => by
    obtain ⟨h1, h2⟩ := List.pairwise_cons.mp ha
    obtain ⟨h3, h4⟩ := List.pairwise_cons.mp hb
    have e : a = b := by
      rcases List.mem_cons.mp (p.mem_iff.mp List.mem_cons_self) with e | m
      · exact e
      · rcases List.mem_cons.mp (p.mem_iff.mpr List.mem_cons_self) with e | m2
        · exact e.symm
        · have q1 := h3 a m
          have q2 := h1 b m2
          rcases ltW_total a b with h | h | h
          · rw [h] at q1; cases q1
          · exact h
          · rw [h] at q2; cases q2
    subst e
    rw [ris_unique (p.cons_inv) h2 h4]
theorem risingS_ris : ∀ {xs : List Str} {p : Str}, risingS p xs = true → RisW ((p :: xs).map fun s => s.cps.toList)
  | [], p, _ => List.pairwise_singleton _ _
  | x :: r, p, h => by
    simp only [risingS, Bool.and_eq_true, Bool.not_eq_true'] at h
    rw [ltW_cpsT] at h
    have ih := risingS_ris h.2
    refine List.pairwise_cons.mpr ⟨fun z hz => ?_, ih⟩
    rw [List.map_cons] at hz
    rcases List.mem_cons.mp hz with e | hz
    · subst e; exact h.1
    · exact ltW_le_trans h.1 ((List.pairwise_cons.mp ih).1 z hz)
theorem sortedS_ris : ∀ {xs : List Str}, sortedS xs = true → RisW (xs.map fun s => s.cps.toList)
  | [], _ => .nil
  | x :: r, h => risingS_ris h
theorem sorted_is {ws : List W} {ys : List Str} (p : ys.Perm (ws.map S)) (h : sortedS ys = true) : ys = (sortW ws).map S := by
  have h1 := sortedS_ris h
  have p1 : (ys.map fun s => s.cps.toList).Perm ws := by
    have := p.map (fun s : Str => s.cps.toList)
    rw [List.map_map] at this
    have e : (ws.map ((fun s : Str => s.cps.toList) ∘ S)) = ws := by
      have : ((fun s : Str => s.cps.toList) ∘ S) = id := by funext w; simp [S_cps]
      rw [this, List.map_id]
    rw [e] at this; exact this
  have e := ris_unique (p1.trans (sortW_perm ws).symm) h1 (sortW_ris ws)
  rw [← e, List.map_map]
  have : (S ∘ fun s : Str => s.cps.toList) = id := by funext s; simp [S_of]
  rw [this, List.map_id]
theorem maxOf_ok : ∀ {ns : List Int} {m : Int}, maxOf ns = some m → m ∈ ns ∧ ∀ y ∈ ns, y ≤ m
  | [], m, h => by simp [maxOf] at h
  | [x], m, h => by simp only [maxOf] at h; cases h; simp
  | x :: y :: r, m, h => by
    simp only [maxOf] at h
    obtain ⟨z, hz, e⟩ := omap h
    obtain ⟨h1, h2⟩ := maxOf_ok hz
    subst e
    split
    · exact ⟨List.mem_cons_of_mem _ h1, fun w hw => by rcases List.mem_cons.mp hw with e | hw; omega; exact h2 w hw⟩
    · exact ⟨List.mem_cons_self, fun w hw => by rcases List.mem_cons.mp hw with e | hw; omega; have := h2 w hw; omega⟩
theorem minOf_ok : ∀ {ns : List Int} {m : Int}, minOf ns = some m → m ∈ ns ∧ ∀ y ∈ ns, m ≤ y
  | [], m, h => by simp [minOf] at h
  | [x], m, h => by simp only [minOf] at h; cases h; simp
  | x :: y :: r, m, h => by
    simp only [minOf] at h
    obtain ⟨z, hz, e⟩ := omap h
    obtain ⟨h1, h2⟩ := minOf_ok hz
    subst e
    split
    · exact ⟨List.mem_cons_of_mem _ h1, fun w hw => by rcases List.mem_cons.mp hw with e | hw; omega; exact h2 w hw⟩
    · exact ⟨List.mem_cons_self, fun w hw => by rcases List.mem_cons.mp hw with e | hw; omega; have := h2 w hw; omega⟩
theorem digs_ok (i : Int) : (toString i : Str) = S (intW i) := by
  have e : ∀ s : Str, ∀ w : W, s.cps.toList = w → s = S w := fun s w h => by rw [← S_of s, h]
  apply e
  show (PySem.Str.ofString (toString i)).cps.toList = _
  by_cases h : i < 0
  · obtain ⟨n, rfl⟩ : ∃ n : Nat, i = Int.negSucc n := by
      cases i with
      | ofNat n => exact absurd h (by simp)
      | negSucc n => exact ⟨n, rfl⟩
    have h1 : toString (Int.negSucc n) = "-" ++ toString (n + 1) := rfl
    have h2 : toString (n + 1) = toString (((n + 1 : Nat) : Int)) := rfl
    have h3 := PySem.W.KIN.signs_num (n + 1)
    unfold intW digs
    rw [if_pos h, h1, h2]
    rw [Str.ofString_eq_toList] at h3 ⊢
    rw [String.toList_append, List.map_append]
    simp only at h3 ⊢
    rw [h3]
    rfl
  · obtain ⟨n, rfl⟩ : ∃ n : Nat, i = (n : Int) := ⟨i.toNat, by omega⟩
    rw [PySem.W.KIN.signs_num]
    unfold intW digs
    rw [if_neg h]
    rfl
def biF : Bi → Value
  | .len => .builtin "len" | .abs => .builtin "abs" | .int => .type "int" | .str => .type "str" | .list => .type "list" | .tuple => .type "tuple" | .dict => .type "dict" | .sorted => .builtin "sorted"
  | .sum => .builtin "sum" | .max => .builtin "max" | .min => .builtin "min" | .all => .builtin "all" | .any => .builtin "any" | .max2 => .builtin "max" | .min2 => .builtin "min" | .maxD => .builtin "max" | .sset => .builtin "sorted"
def biN : Bi → Str
  | .len => "len" | .abs => "abs" | .int => "int" | .str => "str" | .list => "list" | .tuple => "tuple" | .dict => "dict" | .sorted => "sorted"
  | .sum => "sum" | .max => "max" | .min => "min" | .all => "all" | .any => "any" | .max2 => "max" | .min2 => "min" | .maxD => "max" | .sset => "sorted"
end
end NK
set_option Elab.async false
set_option linter.all false
set_option autoImplicit false
set_option maxRecDepth 100000
/-! NkK3: instances: attributes, methods, making. -/
namespace NK
open PySem PySem.Spec PyProof.Rows L2
section
variable {X : Cx} {cs : Nat → Option Addr} {e e1 e2 : Expr} {es : List Expr} {f f1 f2 : Env → Sto → Option (Val × Sto)} {g : Env → Sto → Option (List Val × Sto)} {pos : Pos} {F B H : Hp} {as : List Addr} {env : Env} {st : Sto} {σ : L2.St}
theorem pe_nev {e : Expr} : PE X e (tE X.K cs fun _ _ => none) := ⟨fun pins s σ H Q I ⟨F, B, as, env, st, v, st', r, ev, k⟩ => by cases ev⟩
theorem PE.none {e : Expr} {f : Env → Sto → Option (Val × Sto)} (h : ∀ env st, f env st = none) : PE X e (tE X.K cs f) := ⟨fun pins s σ H Q I ⟨F, B, as, env, st, v, st', r, ev, k⟩ => by rw [h] at ev; cases ev⟩
/-- the instance at a value -/
theorem ins_at {K : PySem.W.Frag} (r : RSt K cs F B as st H) {c : Nat} {v : Val} {u : V} {fs : List (W × Val)} (h : insV c v st = some fs) (q : VOk K F B as v u) :
    ∃ l a C dx gs, v = .ref l ∧ st[l]? = some (.ins c fs) ∧ as[l]? = some a ∧ u = .ref a ∧ cs c = some C ∧ H a = some (.ins C dx gs) ∧ FsOk K F B as fs gs := by
  cases v with
  | ref l =>
    simp only [insV] at h
    split at h
    · rename_i c' fs' hs
      split at h
      · rename_i e
        cases h
        subst e
        obtain ⟨a, ea, rfl⟩ := q
        obtain ⟨_, ho, e3, C, dx, gs, e4, rfl, e5⟩ := r.obj l a _ ea hs
        exact ⟨l, a, C, dx, gs, rfl, hs, ea, rfl, e4, e3, e5⟩
      · cases h
    · cases h
  | _ => simp [insV] at h
theorem S_beq {x y : W} : (S x == S y) = (x == y) := by
  by_cases h : x = y
  · subst h; simp
  · rw [beq_eq_false_iff_ne.mpr h, beq_eq_false_iff_ne.mpr (fun e => h (S_inj e))]
theorem fs_look {K : PySem.W.Frag} {fs : List (W × Val)} {gs : List (Str × V)} (h : FsOk K F B as fs gs) (x : W) : (∀ v, fs.lookup x = some v → ∃ u, gs.lookup (S x) = some u ∧ VOk K F B as v u) ∧ (fs.lookup x = none → gs.lookup (S x) = none) := by
  unfold FsOk at h
  induction h with
  | nil => exact ⟨fun v e => (by simp at e), fun _ => rfl⟩
  | @cons p q ps qs hpq t ih =>
    obtain ⟨y, v⟩ := p
    obtain ⟨z, u⟩ := q
    obtain ⟨rfl, hv⟩ := hpq
    simp only [List.lookup_cons, S_beq]
    cases (x == y) with
    | true => exact ⟨fun w e => (by cases e; exact ⟨u, rfl, hv⟩), fun e => (by cases e)⟩
    | false => exact ih
theorem fs_put {K : PySem.W.Frag} {fs : List (W × Val)} {gs : List (Str × V)} (h : FsOk K F B as fs gs) (x : W) {v : Val} {u : V} (hv : VOk K F B as v u) : FsOk K F B as (putA x v fs) (putF (S x) u gs) := by
  unfold FsOk at *
  induction h with
  | nil => exact .cons ⟨rfl, hv⟩ .nil
  | @cons p q ps qs hpq t ih =>
    obtain ⟨y, w⟩ := p
    obtain ⟨z, z'⟩ := q
    obtain ⟨rfl, hw⟩ := hpq
    simp only [putA, putF]
    by_cases hy : y = x
    · subst hy
      simp only [if_true]
      exact .cons ⟨rfl, hv⟩ t
    · rw [if_neg hy, if_neg (fun e => hy (S_inj e))]
      exact .cons ⟨rfl, hw⟩ ih
theorem Paired.lenP {α β : Type} {R : α → β → Prop} {xs : List α} {ys : List β} (h : Paired R xs ys) : xs.length = ys.length := by
  induction h with
  | nil => rfl
  | cons _ _ ih => simp [ih]
/-! ### attributes -/
def fAttr (c : Nat) (f : Env → Sto → Option (Val × Sto)) (x : W) : Env → Sto → Option (Val × Sto) := fun env st => (f env st).bind fun r => ((insV c r.1 r.2).bind fun fs => fs.lookup x).map fun v => (v, r.2)
theorem s_attr {c : Nat} {x : W} {C : Addr} (hc : cs c = some C) (hC : Cls X.K C) (hn : NoAttr X.K C (S x)) (h : PE X e (tE X.K cs f)) (hb : attributeBase e (S x) X.env (eval e X.env) = eval e X.env) : PE X (.Attribute e (S x) pos) (tE X.K cs (fAttr c f x)) :=
  (pe_fld h hb).weak fun σ H Q ⟨F, B, as, env, st, v, st', r, ev, k⟩ => by
  obtain ⟨⟨v0, s0⟩, e0, ev1⟩ := obnd ev
  obtain ⟨v1, e1, ev2⟩ := omap ev1
  obtain ⟨fs, e2, e3⟩ := obnd e1
  cases ev2
  refine ⟨F, B, as, env, st, v0, s0, r, e0, fun F' as' H' u r' x' w => ?_⟩
  obtain ⟨l, a, C', dx, gs, rfl, hs, ea, rfl, ec, eh, ef⟩ := ins_at r'.toRSt e2 w
  rw [hc] at ec
  cases ec
  obtain ⟨u, hu, hv⟩ := (fs_look ef x).1 _ e3
  exact ⟨a, C, dx, gs, u, rfl, eh, hC, hn, hu, k F' as' H' u r' x' hv⟩
/-! ### methods -/
/-- what a method's body comes to -/
def spM (K : PySem.W.Frag) (cs : Nat → Option Addr) (n : Nat) (fn : List Val → Sto → Option (Ret × Sto)) : Sp := fun vs H Q _ => ∃ F B as args st v st', RSt K cs F B as st H ∧ Paired (VOk K F B as) args vs ∧ args.length = n ∧ fn args st = some (.val v, st') ∧
  ∀ F' as' H' u, RSt K cs F' B as' st' H' → Ext F as H F' as' H' → VOk K F' B as' v u → Q u H'
theorem spM_len {K : PySem.W.Frag} {n : Nat} {fn : List Val → Sto → Option (Ret × Sto)} {vs : List V} {H : Hp} {Q : VK} {E : XK} (h : spM K cs n fn vs H Q E) : vs.length = n := by
  obtain ⟨F, B, as, args, st, v, st', r, p, hl, _⟩ := h
  rw [← Paired.lenP p, hl]
structure MeAt (X : Cx) (cs : Nat → Option Addr) (d n : Nat) (c : Nat) (x : W) (fn : List Val → Sto → Option (Ret × Sto)) : Prop where
  ex : ∃ (C fa : Addr), cs c = some C ∧ Cls X.K C ∧ Meth X.K C (S x) fa ∧ FnR X.prog X.w X.K X.mg X.base CX0 d fa (spM X.K cs n fn)
def fMeth (c : Nat) (x : W) (fn : List Val → Sto → Option (Ret × Sto)) (f : Env → Sto → Option (Val × Sto)) (g : Env → Sto → Option (List Val × Sto)) : Env → Sto → Option (Val × Sto) := fun env st => (f env st).bind fun r => (insV c r.1 r.2).bind fun fs => if (fs.lookup x).isSome then none else
  (g env r.2).bind fun q => (fn (r.1 :: q.1) q.2).bind valR
theorem valR_eq {q : Ret × Sto} {v : Val} {s : Sto} (h : valR q = some (v, s)) : q = (.val v, s) := by
  obtain ⟨r, s'⟩ := q
  cases r with
  | val w => simp only [valR, Option.some.injEq, Prod.mk.injEq] at h; rw [h.1, h.2]
  | _ => simp [valR] at h
theorem meth_of {c : Nat} {x : W} {fn : List Val → Sto → Option (Ret × Sto)} {n : Nat} {C : Addr} {E : XK} (hc : cs c = some C) (hn : ∀ a s q, fn a s = some q → a.length = n) : ∀ σ H Q, tE X.K cs (fMeth c x fn f g) σ H Q → tMethR C (S x) (spM X.K cs n fn) E (tE X.K cs f) (tEs X.K cs g) σ H Q := fun σ H Q ⟨F, B, as, env, st, v, st', r, ev, k⟩ => by
  obtain ⟨⟨v0, s0⟩, e0, ev1⟩ := obnd ev
  obtain ⟨fs, e1, ev2⟩ := obnd ev1
  dsimp only at ev2
  split at ev2
  · cases ev2
  rename_i hno
  obtain ⟨⟨vs, s1⟩, e2, ev3⟩ := obnd ev2
  obtain ⟨q, e3, ev4⟩ := obnd ev3
  have ev5 := valR_eq ev4
  subst ev5
  refine ⟨F, B, as, env, st, v0, s0, r, e0, fun F1 as1 H1 u r1 x1 w1 => ?_⟩
  obtain ⟨l, a, C', dx, gs, rfl, hs, ea, rfl, ec, eh, ef⟩ := ins_at r1.toRSt e1 w1
  rw [hc] at ec
  cases ec
  refine ⟨a, dx, gs, rfl, eh, (fs_look ef x).2 (Option.not_isSome_iff_eq_none.mp hno), F1, B, as1, env, s0, vs, s1, r1, e2, fun F2 as2 H2 us r2 x2 w2 => ?_⟩
  refine ⟨F2, B, as2, .ref l :: vs, s1, v, st', r2.toRSt, .cons (w1.ext x2) w2, hn _ _ _ e3, e3, fun F3 as3 H3 u3 r3 x3 w3 => ?_⟩
  exact k F3 as3 H3 u3 (r2.slots x3 r3) ((x1.trans x2).trans x3) w3
/-- the tree of a method call -/
theorem meth_tree {o : Expr} {m : Str} {apos pos : Pos} {args : List Expr} {env : PySem.Env} (hb : attributeBase o m env (eval o env) = eval o env) (hl : (apos.endLine == pos.line) = true) (hs : (backTo pos (starEach args env)).all (!·.1) = true) (hn : args.length < 30) :
    eval (.Call (.Attribute o m apos) args [] pos) env = (do
      let ov ← eval o env
      standAt apos.atName
      let (f, first) ← holding [ov] (getMethod ov m (do return (← importBound o env).getD true))
      callWith pos f first (backTo pos (starEach args env)) (backToKw pos (keywordEach [] env))) := by
  refine mcall_of hb fun ov => ?_
  have hform : methodCallForm (args.length + ([] : List Keyword).length) (backTo pos (starEach args env)) (backToKw pos (keywordEach [] env)) = true := by
    unfold methodCallForm
    rw [hs]
    show (true && true && decide (args.length + 0 + 0 < 30)) = true
    simp [hn]
  have hpos : methodCallPos true o env apos pos = pure pos := by unfold methodCallPos; simp [hl]
  unfold methodCall
  rw [hform, hpos]
  unfold calleeOf
  simp only [if_true, pure_bind]
theorem s_meth {c d n : Nat} {x : W} {fn : List Val → Sto → Option (Ret × Sto)} {apos : Pos} {o : Expr} (hx : MeAt X cs d n c x fn) (hn : ∀ a s q, fn a s = some q → a.length = n) (hr : Room d X.A) (ho : PE X o (tE X.K cs f)) (ha : PA X (e :: es) (tEs X.K cs g))
    (hst : starEach (e :: es) X.env = (false, eval e X.env) :: starEach es X.env) (hpl : (backTo pos (starEach es X.env)).any (·.1) = false)
    (hb : attributeBase o (S x) X.env (eval o X.env) = eval o X.env) (hl : (apos.endLine == pos.line) = true) (hs : (backTo pos (starEach (e :: es) X.env)).all (!·.1) = true) (hn30 : (e :: es).length < 30) :
    PE X (.Call (.Attribute o (S x) apos) (e :: es) [] pos) (tE X.K cs (fMeth c x fn f g)) := by
  obtain ⟨C, fa, hc, hC, hm, hF⟩ := hx.ex
  exact (pe_methR (E := fun _ _ _ => False) ho hC hm hF hr pass0 ha hst hpl (meth_tree hb hl hs hn30)).weak (meth_of hc hn)
theorem s_meth0 {c d n : Nat} {x : W} {fn : List Val → Sto → Option (Ret × Sto)} {apos : Pos} {o : Expr} (hx : MeAt X cs d n c x fn) (hn : ∀ a s q, fn a s = some q → a.length = n) (hr : Room d X.A) (ho : PE X o (tE X.K cs f))
    (hb : attributeBase o (S x) X.env (eval o X.env) = eval o X.env) (hl : (apos.endLine == pos.line) = true) :
    PE X (.Call (.Attribute o (S x) apos) [] [] pos) (tE X.K cs (fMeth c x fn f fun _ st => some ([], st))) := by
  obtain ⟨C, fa, hc, hC, hm, hF⟩ := hx.ex
  refine ⟨fun pins s σ H Q I h => ?_⟩
  have h2 := meth_of (E := fun _ _ _ => False) hc hn σ H Q h
  refine PySem.W.methodCall_KW (thn (ho.run pins s σ H _ I h2) fun u s1 ⟨x, H1, I1, rx, a, dx, fs, ex, ea, l, q⟩ => ?_) (meth_tree hb hl rfl (by simp))
  subst ex
  obtain rfl : u = Value.ref a := rx
  refine getmeth_ok I1 ea hC hm l ?_
  have q' : spM X.K cs n fn [.ref a] H1 Q fun _ _ _ => False := by
    obtain ⟨F, B, as, env, st, vs, st', r, ev, k⟩ := q
    cases ev
    exact k F as H1 [] r r.refl .nil
  exact PySem.W.callWith_K0 (first := [.ref a]) I1.kIn hm.kp (wpAny_call (run_fnR (us := [.ref a]) (vs := [.ref a]) hF hr pass0 I1 (.cons rfl .nil) q'))
/-! ### making -/
def MkAt (X : Cx) (cs : Nat → Option Addr) (d n : Nat) (x : Str) (fn : List Val → Sto → Option (Ret × Sto)) : Prop := (∀ a s, fn a s = none) ∨ ∃ k c g fa C, d = k + 1 ∧ cs c = some C ∧ Mk X.K C fa ∧ X.mg x = some (.ref C) ∧ FnR X.prog X.w X.K X.mg X.base CX0 k fa (spM X.K cs (n + 1) g) ∧
  ∀ a s q, fn a s = some q → a.length = n ∧ ∃ st', g (.ref s.length :: a) (s ++ [.ins c []]) = some (.val (.dat .non), st') ∧ q = (.val (.ref s.length), st')
def fMake (fn : List Val → Sto → Option (Ret × Sto)) (g : Env → Sto → Option (List Val × Sto)) : Env → Sto → Option (Val × Sto) := fun env st => (g env st).bind fun q => (fn q.1 q.2).bind valR
theorem make_of {fn g' : List Val → Sto → Option (Ret × Sto)} {c n : Nat} {C : Addr} {E : XK} (hc : cs c = some C) (hf : ∀ a s q, fn a s = some q → a.length = n ∧ ∃ st', g' (.ref s.length :: a) (s ++ [.ins c []]) = some (.val (.dat .non), st') ∧ q = (.val (.ref s.length), st')) :
    ∀ σ H Q, tE X.K cs (fMake fn g) σ H Q → StX.tMakeR C (spM X.K cs (n + 1) g') E (tEs X.K cs g) σ H Q := fun σ H Q ⟨F, B, as, env, st, v, st', r, ev, k⟩ => by
  obtain ⟨⟨vs, s1⟩, e1, ev1⟩ := obnd ev
  obtain ⟨q, e3, ev4⟩ := obnd ev1
  have ev5 := valR_eq ev4
  subst ev5
  obtain ⟨hl, s2, hg, hq⟩ := hf _ _ _ e3
  simp only [Prod.mk.injEq, Ret.val.injEq] at hq
  obtain ⟨rfl, rfl⟩ := hq
  refine ⟨F, B, as, env, st, vs, s1, r, e1, fun F1 as1 H1 us r1 x1 w1 => ?_⟩
  intro x dx hx hdx hne
  obtain ⟨ra, xa⟩ := r1.toRSt.extra (o := .own x) hdx
  have hx2 : (upd H1 dx (.own x)) x = none := by rw [upd_ne (Ne.symm hne)]; exact hx
  obtain ⟨rb, xb⟩ := ra.own (o := .ins c []) (ho := .ins C dx []) hx2 ⟨C, dx, [], hc, rfl, .nil⟩
  have xab := xa.trans xb
  have hlen : as1.length = s1.length := r1.toRSt.len
  have hself : (as1 ++ [x])[s1.length]? = some x := by
    rw [List.getElem?_append_right (by omega), hlen, Nat.sub_self]; rfl
  refine ⟨F1, B, as1 ++ [x], .ref s1.length :: vs, s1 ++ [.ins c []], .dat .non, st', rb, .cons ⟨x, hself, rfl⟩ ?_, by simp [hl], hg, fun F3 as3 H3 u3 r3 x3 w3 => ⟨non_of w3, ?_⟩⟩
  · exact Paired.mapP w1 fun p q h => h.ext xab
  · exact k F3 as3 H3 _ (r1.slots (xab.trans x3) r3) ((x1.trans xab).trans x3) ⟨x, pre_get x3.pre hself, rfl⟩
theorem s_make {d n : Nat} {x : Str} {fn : List Val → Sto → Option (Ret × Sto)} {p : Pos} (hx : MkAt X cs d n x fn) (hr : Room d X.A) (hg : Gl X x) (ha : PA X (e :: es) (tEs X.K cs g)) (hd : (x == ("__debug__" : Str)) = false)
    (hst : starEach (e :: es) X.env = (false, eval e X.env) :: starEach es X.env) (hpl : (backTo pos (starEach es X.env)).any (·.1) = false) :
    PE X (.Call (.Name x p) (e :: es) [] pos) (tE X.K cs (fMake fn g)) := by
  rcases hx with hx | ⟨k, c, g', fa, C, rfl, hc, hM, hm, hF, hf⟩
  · refine PE.none fun env st => ?_
    unfold fMake
    cases h : g env st with
    | none => rfl
    | some q => simp [hx]
  · exact (StX.pe_makeR (E := fun _ _ _ => False) hM hF hr hg hm pass0 ha hd hst hpl).weak (make_of hc hf)
/-! ### writing -/
def fSetA (c : Nat) (fo : Env → Sto → Option (Val × Sto)) (x : W) (fv : Env → Sto → Option (Val × Sto)) : Env → Sto → Option Out := fun env st => (fv env st).bind fun r => (fo env r.2).bind fun q => (setAV c x q.1 r.1 q.2).map fun s => .nx env s
theorem set_at {K : PySem.W.Frag} {c : Nat} {x : W} {o v : Val} {st' : Sto} {u w : V} (r : RSt K cs F B as st H) (h : setAV c x o v st = some st') (q : VOk K F B as o u) (qv : VOk K F B as v w) :
    ∃ a C dx gs, u = .ref a ∧ cs c = some C ∧ H a = some (.ins C dx gs) ∧ gs.length < 1000 ∧ RSt K cs F B as st' (upd H a (.ins C dx (putF (S x) w gs))) ∧ Ext F as H F as (upd H a (.ins C dx (putF (S x) w gs))) := by
  cases o with
  | ref l =>
    simp only [setAV] at h
    split at h
    · rename_i c' fs hs
      split at h
      · rename_i e
        obtain ⟨e, hl⟩ := e
        cases h
        subst e
        obtain ⟨l', a, C, dx, gs, el, hs', ea, rfl, e4, e3, e5⟩ := ins_at r (c := c') (v := .ref l) (fs := fs) (by simp [insV, hs]) q
        cases el
        have e6 := Paired.lenP e5
        obtain ⟨r2, x2⟩ := r.write (o' := .ins c' (putA x v fs)) (ho := .ins C dx (putF (S x) w gs)) ea hs (by simp) ⟨C, dx, _, e4, rfl, fs_put e5 x qv⟩
        exact ⟨a, C, dx, gs, rfl, e4, e3, by omega, r2, x2⟩
      · cases h
    · cases h
  | _ => simp [setAV] at h
theorem s_setA {c : Nat} {x : W} {C : Addr} {pos' : Pos} {o value : Expr} (hc : cs c = some C) (hC : Cls X.K C) (hn : NoAttr X.K C (S x)) (ho : PE X o (tE X.K cs f1)) (hv : PE X value (tE X.K cs f2)) (hs : swapsWith value (some (.Attribute o (S x) pos')) pos.line X.env = pure false) :
    PS X (.Assign [.Attribute o (S x) pos'] value pos) (tS X.K cs (fSetA c f1 x f2)) := (ps_fld ho hv hs).weak fun D σ H ⟨F, B, as, env, st, o, r, ev, k1, k2⟩ => by
  obtain ⟨⟨v0, s0⟩, e0, ev1⟩ := obnd ev
  obtain ⟨⟨o0, s1⟩, e1, ev2⟩ := obnd ev1
  obtain ⟨s2, e2, ev3⟩ := omap ev2
  refine ⟨F, B, as, env, st, v0, s0, r, e0, fun F1 as1 H1 w r1 x1 w1 => ⟨F1, B, as1, env, s0, o0, s1, r1, e1, fun F2 as2 H2 u r2 x2 w2 => ?_⟩⟩
  obtain ⟨a, C', dx, gs, rfl, ec, eh, hl, r3, x3⟩ := set_at r2.toRSt e2 w2 (w1.ext x2)
  rw [hc] at ec
  cases ec
  exact ⟨a, C, dx, gs, rfl, eh, hC, hn, hl, k1 _ _ ev3.symm F2 as2 _ _ (r2.slots x3 r3) ((x1.trans x2).trans x3)⟩
def fAugA (c : Nat) (fo : Env → Sto → Option (Val × Sto)) (x : W) (op : BOp) (fv : Env → Sto → Option (Val × Sto)) : Env → Sto → Option Out := fun env st => (fo env st).bind fun r => ((insV c r.1 r.2).bind fun fs => (fs.lookup x).bind intOf).bind fun i => (fv env r.2).bind fun q => (intOf q.1).bind fun j => (augV op i j).bind fun k => (setAV c x r.1 (.dat (.int k)) q.2).map fun s => .nx env s
theorem aug_of {c : Nat} {x : W} {C : Addr} {op : BOp} {rd : V → V → Hp → VK → Prop} (hc : cs c = some C) (hC : Cls X.K C) (hn : NoAttr X.K C (S x))
    (hr : ∀ i j k, augV op i j = some k → ∀ H (Q : VK), Q (.int k) H → rd (.int i) (.int j) H Q) :
    ∀ D σ H, tS X.K cs (fAugA c f1 x op f2) D σ H → sFldAug X.K (tE X.K cs f1) (tE X.K cs f2) rd (S x) D σ H := fun D σ H ⟨F, B, as, env, st, o, r, ev, k1, k2⟩ => by
  obtain ⟨⟨o0, s0⟩, e0, ev1⟩ := obnd ev
  obtain ⟨i, e1, ev2⟩ := obnd ev1
  obtain ⟨fs, e2, e3⟩ := obnd e1
  obtain ⟨iv, e4, e5⟩ := obnd e3
  obtain ⟨⟨v0, s1⟩, e6, ev3⟩ := obnd ev2
  obtain ⟨j, e7, ev4⟩ := obnd ev3
  obtain ⟨k, e8, ev5⟩ := obnd ev4
  obtain ⟨s2, e9, ev6⟩ := omap ev5
  have hiv := intOf_eq e5
  have hv0 := intOf_eq e7
  clear ev ev1 ev2 ev3 ev4 ev5 e1 e3 e5 e7
  dsimp only at hv0 e2 e6 e9
  subst hiv
  subst hv0
  refine ⟨F, B, as, env, st, o0, s0, r, e0, fun F1 as1 H1 w r1 x1 w1 => ?_⟩
  obtain ⟨l, a, C', dx, gs, rfl, hs, ea, rfl, ec, eh, ef⟩ := ins_at r1.toRSt e2 w1
  rw [hc] at ec
  cases ec
  obtain ⟨u, hu, hv⟩ := (fs_look ef x).1 _ e4
  cases int_of hv
  refine ⟨a, C, dx, gs, _, rfl, eh, hC, hn, hu, F1, B, as1, env, s0, _, s1, r1, e6, fun F2 as2 H2 w2 r2 x2 w3 => ?_⟩
  cases int_of w3
  refine hr _ _ _ e8 H2 _ ?_
  obtain ⟨a', C', dx', gs', ea', ec', eh', hl, r3, x3⟩ := set_at (w := .int k) r2.toRSt e9 (w1.ext x2) vint
  rw [hc] at ec'
  cases ec'
  cases ea'
  exact ⟨dx', gs', eh', hl, k1 _ _ ev6.symm F2 as2 _ _ (r2.slots x3 r3) ((x1.trans x2).trans x3)⟩
theorem s_augA {c : Nat} {x : W} {C : Addr} {op : BOp} {tpos : Pos} {o value : Expr} (hc : cs c = some C) (hC : Cls X.K C) (hn : NoAttr X.K C (S x)) (ho : PE X o (tE X.K cs f1)) (hv : PE X value (tE X.K cs f2)) :
    PS X (.AugAssign (.Attribute o (S x) tpos) (opB op) value pos) (tS X.K cs (fAugA c f1 x op f2)) := by
  have no : ∀ op : BOp, (∀ i j, augV op i j = none) → ∀ {s : Stmt}, PS X s (tS X.K cs (fAugA c f1 x op f2)) := fun op h s => ps_never.weak fun D σ H ⟨F, B, as, env, st, o, r, ev, k1, k2⟩ => by
    exfalso
    obtain ⟨_, _, ev1⟩ := obnd ev
    obtain ⟨_, _, ev2⟩ := obnd ev1
    obtain ⟨_, _, ev3⟩ := obnd ev2
    obtain ⟨_, _, ev4⟩ := obnd ev3
    rw [h] at ev4
    cases ev4
  cases op with
  | add => exact (ps_fldaug ho hv in_add).weak (aug_of hc hC hn fun i j k h H Q q => ⟨i, j, rfl, rfl, by cases h; exact q⟩)
  | sub => exact (ps_fldaug ho hv in_sub).weak (aug_of hc hC hn fun i j k h H Q q => ⟨i, j, rfl, rfl, by cases h; exact q⟩)
  | mul => exact no _ fun _ _ => rfl
  | fdiv => exact no _ fun _ _ => rfl
  | mod => exact no _ fun _ _ => rfl
  | pow => exact no _ fun _ _ => rfl
  | shl => exact no _ fun _ _ => rfl
end
end NK
set_option Elab.async false
set_option linter.all false
set_option autoImplicit false
set_option maxRecDepth 100000
set_option maxHeartbeats 1000000
/-! NkK2: sorted(xs), xs tuples of whole numbers of any lengths, in order already. -/
namespace NK
open PySem PySem.Spec PyProof.Rows L2
/-- a number that keeps that order -/
def cdI (B : Int) : Nat → List Int → Int
  | 0, _ => 0
  | _ + 1, [] => 0
  | m + 1, d :: r => (d + 1) * B ^ m + cdI B m r
def BdI (B : Int) (ns : List Int) : Prop := ∀ m, m ∈ ns → 0 ≤ m ∧ m + 1 < B
theorem cd_bd {B : Int} (hB : 1 ≤ B) : ∀ (m : Nat) (ns : List Int), ns.length ≤ m → BdI B ns → 0 ≤ cdI B m ns ∧ cdI B m ns < B ^ m
  | 0, ns, _, _ => ⟨Int.le_refl _, by show (0 : Int) < B ^ 0; rw [Int.pow_zero]; decide⟩
  | m + 1, [], _, _ => ⟨Int.le_refl _, Int.pow_pos (by omega)⟩
  | m + 1, d :: r, hl, h => by
    obtain ⟨c0, c1⟩ := cd_bd hB m r (by simpa using hl) fun x hx => h x (List.mem_cons_of_mem _ hx)
    obtain ⟨d0, d1⟩ := h d List.mem_cons_self
    show 0 ≤ (d + 1) * B ^ m + cdI B m r ∧ (d + 1) * B ^ m + cdI B m r < B ^ (m + 1)
    rw [Int.pow_succ]
    exact TS.num1 c0 c1 (by omega) d1
theorem cd_lex {B : Int} (hB : 1 ≤ B) : ∀ (m : Nat) (ns ms : List Int), ns.length ≤ m → ms.length ≤ m → BdI B ns → BdI B ms → decide (cdI B m ns < cdI B m ms) = ltI ns ms
  | 0, ns, ms, h1, h2, _, _ => by
    have e1 : ns = [] := List.eq_nil_of_length_eq_zero (by omega)
    have e2 : ms = [] := List.eq_nil_of_length_eq_zero (by omega)
    subst e1 e2
    simp [cdI, ltI]
  | m + 1, [], [], _, _, _, _ => by simp [cdI, ltI]
  | m + 1, d :: r, [], h1, _, b1, _ => by
    have := (cd_bd hB (m + 1) (d :: r) h1 b1).1
    have e : cdI B (m + 1) [] = 0 := rfl
    simp only [ltI, e, decide_eq_false_iff_not]
    omega
  | m + 1, [], e :: q, _, h2, _, b2 => by
    obtain ⟨c0, c1⟩ := cd_bd hB m q (by simpa using h2) fun x hx => b2 x (List.mem_cons_of_mem _ hx)
    have d0 := (b2 e List.mem_cons_self).1
    have p : 0 < B ^ m := Int.pow_pos (by omega)
    have : 0 < (e + 1) * B ^ m := Int.mul_pos (by omega) p
    have h : cdI B (m + 1) [] < cdI B (m + 1) (e :: q) := by
      show (0 : Int) < (e + 1) * B ^ m + cdI B m q
      omega
    simp only [ltI, decide_eq_true_eq]
    exact h
  | m + 1, d :: r, e :: q, h1, h2, b1, b2 => by
    have hr : r.length ≤ m := by simpa using h1
    have hq : q.length ≤ m := by simpa using h2
    have br : BdI B r := fun x hx => b1 x (List.mem_cons_of_mem _ hx)
    have bq : BdI B q := fun x hx => b2 x (List.mem_cons_of_mem _ hx)
    have ih := cd_lex hB m r q hr hq br bq
    obtain ⟨c0, c1⟩ := cd_bd hB m r hr br
    obtain ⟨g0, g1⟩ := cd_bd hB m q hq bq
    have e1 : cdI B (m + 1) (d :: r) = (d + 1) * B ^ m + cdI B m r := rfl
    have e2 : cdI B (m + 1) (e :: q) = (e + 1) * B ^ m + cdI B m q := rfl
    rw [e1, e2]
    unfold ltI
    rcases Int.lt_trichotomy d e with h | h | h
    · have := TS.num2 (P := B ^ m) (d := d + 1) (e := e + 1) c0 c1 g0 (by omega)
      simp [h, this]
    · subst h
      simp only [Int.lt_irrefl, decide_false, Bool.false_or, beq_self_eq_true, Bool.true_and]
      rw [← ih]
      exact decide_eq_decide.mpr ⟨fun z => by omega, fun z => by omega⟩
    · have := TS.num2 (P := B ^ m) (d := e + 1) (e := d + 1) g0 g1 c0 (by omega)
      have n1 : ¬ d < e := by omega
      have n2 : ¬ d = e := by omega
      have n0 : ¬ ((d + 1) * B ^ m + cdI B m r < (e + 1) * B ^ m + cdI B m q) := by omega
      rw [decide_eq_false n0, decide_eq_false n1, beq_eq_false_iff_ne.mpr n2]
      rfl
section
variable {prog : Program} {w : World} {A : Around} {E : Value → Shared → Prop} {s : Shared} {Q : Bool → Shared → Prop}
theorem lex_any {b fin : Bool} {xs ys : List Value} {ns ms : List Int} (i : Nat) (hx : IntsAre xs ns) (hy : IntsAre ys ms) (hf : fin = decide (ns.length < ms.length)) (h : Q (ltI ns ms) s) : PySem.W.KatLex prog w A b fin Q (xs.zip ys) i s := by
  induction hx generalizing ys ms i with
  | nil =>
    cases hy with
    | nil =>
      refine PySem.W.kat_nil ?_
      rw [hf]
      exact h
    | cons q u hy =>
      refine PySem.W.kat_nil ?_
      rw [hf]
      simp only [ltI] at h
      simpa using h
  | @cons p t xs ns hx ih =>
    cases hy with
    | nil =>
      refine PySem.W.kat_nil ?_
      rw [hf]
      simp only [ltI] at h
      simpa using h
    | @cons q u ys ms hy =>
      show PySem.W.KatLex prog w A b fin Q ((Value.int p t, Value.int q u) :: xs.zip ys) i s
      refine PySem.W.kat_cons (wpAny_eqBool_int ?_)
      by_cases e : p = q
      · subst e
        rw [beq_self_eq_true]
        refine PySem.W.kat_yes (ih (i + 1) hy (by simpa using hf) ?_)
        simpa [ltI] using h
      · rw [show (p == q) = false from beq_eq_false_iff_ne.mpr e]
        refine PySem.W.kat_no (TS.oneLt_ints _ ?_)
        have : ltI (p :: ns) (q :: ms) = decide (p < q) := by simp [ltI, e]
        rw [← this]
        exact h
/-- what is sorted -/
def TupsI (h : Heap) (B : Int) (vs : List Value) : Prop := ∀ v, v ∈ vs → ∃ ns, TS.TupInts h v ns ∧ 1 ≤ ns.length ∧ ns.length ≤ 400 ∧ BdI B ns
theorem TupsI.keeps {h h' : Heap} {B : Int} {vs : List Value} (x : TupsI h B vs) (k : ∀ b o, h.get? b = some o → o.cls = .type "tuple" → h'.get? b = some o) : TupsI h' B vs := fun v hv =>
  let ⟨ns, t, r⟩ := x v hv; ⟨ns, t.keeps k, r⟩
theorem heads_of {h : Heap} {B : Int} : ∀ vs : List Value, TupsI h B vs → ∃ fs, PySem.W.KatTups h vs fs ∧ fs.length = vs.length ∧ ∀ f, f ∈ fs → ∃ n t, f = Value.int n t
  | [], _ => ⟨[], PySem.W.KatTups.nil, rfl, fun f hf => by simp at hf⟩
  | v :: vs, x => by
    obtain ⟨fs, k, hl, hi⟩ := heads_of vs fun u hu => x u (List.mem_cons_of_mem _ hu)
    obtain ⟨ns, ⟨a, xs, rfl, ⟨o, ho, hc, n, hdt⟩, i⟩, hn, _⟩ := x v List.mem_cons_self
    obtain ⟨y, ys, e⟩ : ∃ y ys, xs.toList = y :: ys := by
      cases q : xs.toList with
      | nil =>
        rw [q] at i
        have l := i.length
        simp at l
        omega
      | cons y ys => exact ⟨y, ys, rfl⟩
    obtain ⟨m, t, hy⟩ := i.all y (by rw [e]; exact List.mem_cons_self)
    refine ⟨y :: fs, PySem.W.KatTups.cons ho hc hdt ?_ k, by simp [hl], fun f hf => ?_⟩
    · have z := congrArg (fun l : List Value => l[0]?) e
      simpa using z
    · rcases List.mem_cons.mp hf with rfl | hf
      · exact ⟨m, t, hy⟩
      · exact hi f hf
theorem kind_any {B : Int} (hB : 1 ≤ B) {vs : List Value} (h2 : 2 ≤ vs.length) (x : TupsI s.heap B vs) (r : Value → Int) (hr : ∀ v, v ∈ vs → ∀ ns, TS.TupInts s.heap v ns → r v = cdI B 400 ns) (Q : SortKind → Shared → Prop)
    (h : ∀ κ, TS.Cmp prog w A s κ (pairsOf vs) r → Q κ s) : wpAny (model prog w) A (keyKind' vs.toArray) Q E s := by
  obtain ⟨fs, k, hl, hi⟩ := heads_of vs x
  refine PySem.W.kat_kind (T := Value.type "int") k (by omega) (fun f hf => ?_) rfl (h _ ?_)
  · obtain ⟨n, t, rfl⟩ := hi f hf
    exact PySem.W.Looks.of_pure rfl
  · intro p q hp hq Q' E' hQ
    rw [pairsOf_toList] at hp hq
    have mp := (mem_zip_self hp).2
    have mq := (mem_zip_self hq).2
    obtain ⟨ns, tp, _, lp, bp⟩ := x _ mp
    obtain ⟨ms, tq, _, lq, bq⟩ := x _ mq
    have hQ' : Q' (ltI ns ms) s := by
      rw [← cd_lex hB 400 ns ms lp lq bp bq, ← hr _ mp _ tp, ← hr _ mq _ tq]
      exact hQ
    obtain ⟨a, xs, e1, ⟨o, ho, hc, n, hdt⟩, i⟩ := tp
    obtain ⟨a', ys, e2, ⟨o', ho', hc', n', hdt'⟩, i'⟩ := tq
    rw [e1, e2]
    refine PySem.W.kat_lt ho hdt ho' hdt' (lex_any 0 i i' ?_ hQ')
    have l1 := i.length
    have l2 := i'.length
    rw [Array.length_toList] at l1 l2
    rw [l1, l2]
theorem sort_any {a : Addr} {vs : List Value} {n : Nat} {B : Int} (hB : 1 ≤ B) {P : PySem.Fin → Shared → Prop} (ho : s.heap.get? a = some (seqObj "list" vs.toArray n)) (h64 : vs.length < 64) (x : TupsI s.heap B vs)
    (r : Value → Int) (hr : ∀ v, v ∈ vs → ∀ ns, TS.TupInts s.heap v ns → r v = cdI B 400 ns)
    (h : ∀ out : Array Value, out.toList.Perm vs → out.toList.Pairwise (fun u v => r u ≤ r v) → P (.done (.ret .none)) { s with heap := sortedHeap s.heap a vs out }) :
    wpAny (model prog w) A (Builtin.«list.sort» ⟨[.ref a], []⟩) P E s := by
  have keep : ∀ b o, s.heap.get? b = some o → o.cls = .type "tuple" → (TS.midHeap s.heap a vs).get? b = some o := fun b o e hc => by
    refine TS.midHeap_old ?_ e
    rintro rfl
    rw [ho] at e
    have c' : Value.type "list" = Value.type "tuple" := (congrArg Obj.cls (Option.some.inj e)).trans hc
    injection c' with c''
    exact absurd c'' (by decide)
  refine SK.plain_sort (r := r) ho h64 (fun h2 Q hQ => ?_) fun ps out h1 h2 h3 => ?_
  · refine kind_any hB (s := { s with heap := TS.midHeap s.heap a vs }) h2 (x.keeps keep) r (fun v hv ns t => ?_) Q hQ
    obtain ⟨ns0, t0, _⟩ := x v hv
    have e : ns = ns0 := t.ints.symm.trans (t0.keeps keep).ints
    rw [e]
    exact hr v hv ns0 t0
  · obtain ⟨p, o⟩ := TS.out_rank h1 h2 h3
    exact h out p o
/-- sorted(xs) of such a list, in order already: the same once more -/
theorem sorted_asc {l : Addr} {vs : List Value} {B : Int} (hB : 1 ≤ B) {Q : Value → Shared → Prop} (hl : s.heap.IsList l vs.toArray) (h64 : vs.length < 64) (x : TupsI s.heap B vs)
    (asc : vs.Pairwise fun u v => cdI B 400 (TS.intsOf s.heap u) < cdI B 400 (TS.intsOf s.heap v))
    (h : Q (.ref (s.heap.objs.size + 1)) { s with heap := sortedAll s.heap vs vs.toArray }) :
    wpAny (model prog w) A (PySem.call (.builtin "sorted") [.ref l]) Q E s := by
  have uniq : ∀ out : Array Value, out.toList.Perm vs → out.toList.Pairwise (fun u v => cdI B 400 (TS.intsOf s.heap u) ≤ cdI B 400 (TS.intsOf s.heap v)) → out = vs.toArray := fun out p1 p2 => by
    have p3 : vs.Pairwise fun u v => cdI B 400 (TS.intsOf s.heap u) ≤ cdI B 400 (TS.intsOf s.heap v) := asc.imp fun z => Int.le_of_lt z
    have nd : ∀ u ∈ vs, ∀ v ∈ vs, cdI B 400 (TS.intsOf s.heap u) = cdI B 400 (TS.intsOf s.heap v) → u = v := fun u hu v hv e => by
      obtain ⟨i, hi, rfl⟩ := List.mem_iff_getElem.mp hu
      obtain ⟨j, hj, rfl⟩ := List.mem_iff_getElem.mp hv
      rcases Nat.lt_trichotomy i j with z | z | z
      · have := List.pairwise_iff_getElem.mp asc i j hi hj z
        omega
      · subst z; rfl
      · have := List.pairwise_iff_getElem.mp asc j i hj hi z
        omega
    have e : out.toList = vs := List.Perm.eq_of_pairwise (fun a b ha hb h1 h2 => nd a (p1.mem_iff.mp ha) b hb (Int.le_antisymm h1 h2)) p2 p3 p1
    rw [← e, Array.toArray_toList]
  refine Calls.call_function_entry kind_sorted plain_sorted entry_sorted (args_sorted1 _) ?_
  unfold Builtin.«sorted»
  refine wpAny_bind (m := checkCount "sorted" 1 1 _) (wpAny_pure (wpAny_bind (collect_list hl ?_ (by rw [sizeLine_eq]; omega))))
  refine wpAny_bind (wpAny_newList ?_ (by rw [sizeLine_eq]; omega))
  have hsz : ((s.heap.push (seqObj "list" #[] 0)).update s.heap.objs.size (Obj.mapSeq (· ++ vs.toArray))).objs.size = s.heap.objs.size + 1 := by
    rw [Heap.size_update, size_push']
  have hoL : (((s.heap.push (seqObj "list" #[] 0)).update s.heap.objs.size (Obj.mapSeq (· ++ vs.toArray))).push (seqObj "list" vs.toArray 0)).get? (s.heap.objs.size + 1) = some (seqObj "list" vs.toArray 0) := by
    rw [← hsz]; exact Heap.get?_push_size _ rfl
  have keep : ∀ b o, s.heap.get? b = some o → o.cls = .type "tuple" → (((s.heap.push (seqObj "list" #[] 0)).update s.heap.objs.size (Obj.mapSeq (· ++ vs.toArray))).push (seqObj "list" vs.toArray 0)).get? b = some o := fun b o q _ => by
    have hlt : b < s.heap.objs.size := Heap.lt_size q
    rw [Heap.get?_push_ne _ _ _ (by rw [hsz]; exact Nat.ne_of_lt (Nat.lt_succ_of_lt hlt)), Heap.get?_update_ne _ _ _ _ (Nat.ne_of_lt hlt), Heap.get?_push_ne _ _ _ (Nat.ne_of_lt hlt)]
    exact q
  show wpAny _ _ _ _ _ { s with heap := ((s.heap.push (seqObj "list" #[] 0)).update s.heap.objs.size (Obj.mapSeq (· ++ vs.toArray))).push (seqObj "list" vs.toArray 0) }
  rw [hsz]
  refine wpAny_bind (wpAny_holding (wpAny_call_entry slot_list_sort ⟨_, hoL, rfl⟩ entry_list_sort (sort_any hB hoL h64 (x.keeps keep) (fun v => cdI B 400 (TS.intsOf s.heap v)) (fun v hv ns t => ?_) fun out a1 a2 => ⟨_, rfl, ?_⟩) (args_list_sort _)))
  · obtain ⟨ns0, t0, _⟩ := x v hv
    have e : ns = ns0 := t.ints.symm.trans (t0.keeps keep).ints
    rw [e]
    show cdI B 400 (TS.intsOf s.heap v) = cdI B 400 ns0
    rw [t0.ints]
  · refine wpAny_pure ⟨_, rfl, ?_⟩
    rw [uniq out a1 a2]
    exact h
end
section
variable {X : Cx}
def rAsc (K : PySem.W.Frag) : List V → Hp → VK → Prop := fun vs H Q => ∃ (a : Addr) (xs : List V) (nss : List (List Int)), vs = [V.ref a] ∧ SqL K H a xs ∧ xs.length < 64 ∧ Paired (fun x ns => TupI K H x ns) xs nss ∧ (∀ ns ∈ nss, 1 ≤ ns.length ∧ ns.length ≤ 400 ∧ BdI 1073741824 ns) ∧ nss.Pairwise (fun a b => ltI a b = true) ∧
  ∀ p, H p = none → Q (.ref p) (upd H p (.lst xs))
theorem cr_sortAsc : CallR X (.builtin "sorted") (rAsc X.K) := by
  intro pins s σ H vs us Q I r h
  obtain ⟨a, xs, nss, rfl, hs, h64, hp, hb, asc, q⟩ := h
  obtain ⟨its, rv, hl, hz⟩ := I.list hs
  rw [Vals.ref1 r]
  have raw : ∀ {xs : List V} {nss : List (List Int)} {its : List Value}, Paired (fun x ns => TupI X.K H x ns) xs nss → Vals xs its → Paired (fun v ns => TS.TupInts s.heap v ns) its nss := by
    intro xs nss its p
    induction p generalizing its with
    | nil => intro rv; cases rv; exact .nil
    | cons h t ih =>
      intro rv
      cases rv with
      | cons r1 r2 =>
        obtain ⟨t', e, ht⟩ := h
        subst e
        cases r1
        exact .cons (tupI_raw I ht) (ih r2)
  have pr := raw hp rv
  have tups : TupsI s.heap 1073741824 its := fun v hv => by
    have : ∀ {its : List Value} {nss : List (List Int)}, Paired (fun v ns => TS.TupInts s.heap v ns) its nss → v ∈ its → ∃ ns ∈ nss, TS.TupInts s.heap v ns := by
      intro its nss p
      induction p with
      | nil => intro h; cases h
      | cons h t ih =>
        intro hm
        rcases List.mem_cons.mp hm with rfl | hm
        · exact ⟨_, List.mem_cons_self, h⟩
        · obtain ⟨ns, h1, h2⟩ := ih hm
          exact ⟨ns, List.mem_cons_of_mem _ h1, h2⟩
    obtain ⟨ns, h1, h2⟩ := this pr hv
    exact ⟨ns, h2, hb ns h1⟩
  have ascV : its.Pairwise fun u v => cdI 1073741824 400 (TS.intsOf s.heap u) < cdI 1073741824 400 (TS.intsOf s.heap v) := by
    have e : its.map (TS.intsOf s.heap) = nss := by
      have : ∀ {its : List Value} {nss : List (List Int)}, Paired (fun v ns => TS.TupInts s.heap v ns) its nss → its.map (TS.intsOf s.heap) = nss := by
        intro its nss p
        induction p with
        | nil => rfl
        | cons h t ih => rw [List.map_cons, ih, h.ints]
      exact this pr
    have : (its.map (TS.intsOf s.heap)).Pairwise fun a b => cdI 1073741824 400 a < cdI 1073741824 400 b := by
      rw [e]
      refine List.Pairwise.imp_of_mem (fun {a b} ha hb' h => ?_) asc
      have := cd_lex (B := 1073741824) (by decide) 400 a b (hb a ha).2.1 (hb b hb').2.1 (hb a ha).2.2 (hb b hb').2.2
      rw [h] at this
      exact of_decide_eq_true this
    rwa [List.pairwise_map] at this
  have h64' : its.length < 64 := by rw [← rv.length]; exact h64
  obtain ⟨ep, he'⟩ := PyProof.Rows.sortedAll_at s.heap its its.toArray
  exact sorted_asc (B := 1073741824) (by decide) hl.isList h64' tups ascV ⟨.ref _, upd H (s.heap.objs.size + 1) (.lst xs), I.laid (t' := s.toks) (fun _ _ => PyProof.Rows.sortedAll_old) (Nat.le_succ _) ⟨hz, its, ep, rv, he'⟩, rfl, q _ (I.hok.fresh (Nat.le_succ _))⟩
end
end NK
set_option Elab.async false
set_option linter.all false
set_option autoImplicit false
set_option maxRecDepth 100000
/-! NkL: calls of built-ins, methods of built-in types. -/
namespace NK
open PySem PySem.Spec PyProof.Rows L2
section
variable {X : Cx} {cs : Nat → Option Addr} {e e1 e2 e3 : Expr} {es : List Expr} {f f1 f2 f3 : Env → Sto → Option (Val × Sto)} {g : Env → Sto → Option (List Val × Sto)} {pos : Pos}
theorem top_len (hc : X.calm = true) {F B H : Hp} {as : List Addr} {st : Sto} (r : RSt X.K cs F B as st H) {v : Val} {u : V} {n : Nat} (h : lenV st v = some n) (q : VOk X.K F B as v u) {Q : VK} (k : Q (.int n) H) :
    (∃ x n, [u] = [x] ∧ LenV X.K x H n ∧ Q (.int n) H) ∨ ∃ a kvs, [u] = [V.ref a] ∧ Rd H a (.dK kvs) ∧ Q (.int kvs.length) H := by
  unfold lenV at h
  split at h
  · cases h
    obtain ⟨p, us, rfl, hp, hq⟩ := Den.tup_iff.mp q
    exact .inl ⟨_, _, rfl, .inr ⟨us, .of (r.fh _ _ hp), hq.length.symm⟩, k⟩
  · split at h
    · rename_i hl
      cases h
      have e := str_of q
      subst e
      exact .inl ⟨_, _, rfl, ⟨by rw [S_len, ← line_eq]; exact hl, (S_len _).symm⟩, k⟩
    · cases h
  · split at h
    · rename_i ds hs
      cases h
      obtain ⟨p, us, rfl, hp, hq⟩ := top_lst r hs q
      exact .inl ⟨_, _, rfl, .inl ⟨us, .of hp, hq.length.symm⟩, k⟩
    · rename_i ns hs
      cases h
      obtain ⟨p, rfl, hp⟩ := top_scr r hs q
      exact .inl ⟨_, _, rfl, .inl ⟨_, hp, by rw [List.length_map]⟩, k⟩
    · rename_i ks ds hs
      cases h
      obtain ⟨p, us, rfl, hp, hl, hq⟩ := top_dK r hs q
      refine .inr ⟨p, _, rfl, hp, ?_⟩
      rw [List.length_zip, List.length_map, hq.length, ← hl, Nat.min_self]
      exact k
    · cases h
theorem call_lenR : CallR X (.builtin "len") (fun xs H Q => ∃ a kvs, xs = [V.ref a] ∧ Rd H a (.dK kvs) ∧ Q (.int kvs.length) H) := fun pins s σ H xs us Q I r ⟨a, kvs, ex, e, q⟩ => by
  subst ex
  rw [Vals.ref1 r]
  exact d_len I e fun t s' I' => ⟨.int _, H, I', ⟨t, rfl⟩, q⟩
theorem asDK_snap {st : Sto} {v : Val} {ks : List K1} {ds : List D} (h : asDK st v = some (ks, ds)) : snap st v = some (.dK ks ds) := by
  unfold asDK at h
  split at h
  · cases h; assumption
  · cases h
theorem texts_keys : ∀ {ks : List K1} {ws : List W}, textsD (ks.map k2D) = some ws → ks = ws.map Sum.inr
  | [], ws, h => by simp [textsD] at h; subst h; rfl
  | .inl i :: ks, ws, h => by simp [k2D, textsD] at h
  | .inr w :: ks, ws, h => by
    simp only [List.map_cons, k2D, textsD, Option.map_eq_some_iff] at h
    obtain ⟨r, hr, rfl⟩ := h
    rw [texts_keys hr]
    rfl
theorem intsD_dens {K : PySem.W.Frag} {F : Hp} : ∀ {ds : List D} {ns : List Int} {us : List V}, intsD ds = some ns → Dens K F ds us → us = ns.map V.int
  | [], ns, us, h, q => by
    cases h
    rw [Dens.nil.mp q]; rfl
  | d :: ds, ns, us, h, q => by
    cases d <;> simp only [intsD] at h <;> try contradiction
    obtain ⟨ms, hm, e⟩ := omap h
    subst e
    obtain ⟨u, us', rfl, a, b⟩ := Dens.cons.mp q
    rw [Den.int_iff.mp a, intsD_dens hm b]; rfl
theorem tupsI_ok {X : Cx} {F H : Hp} : ∀ {ds : List D} {nss : List (List Int)} {us : List V}, tupsI? ds = some nss → Dens X.K F ds us → (∀ a o, F a = some o → H a = some o) → Paired (fun x ns => TupI X.K H x ns) us nss ∧ ∀ ns ∈ nss, 1 ≤ ns.length ∧ ns.length ≤ 400 ∧ BdI 1073741824 ns
  | [], nss, us, h, q, _ => by
    cases h
    rw [Dens.nil.mp q]
    exact ⟨.nil, fun _ h => nomatch h⟩
  | d :: ds, nss, us, h, q, hf => by
    simp only [tupsI?] at h
    obtain ⟨n, hn, h⟩ := obnd h
    obtain ⟨ms, hm, e⟩ := omap h
    subst e
    obtain ⟨u, us', rfl, a, b⟩ := Dens.cons.mp q
    obtain ⟨i1, i2⟩ := tupsI_ok (X := X) (H := H) hm b hf
    cases d <;> simp only [tupI?] at hn <;> try contradiction
    obtain ⟨ns, hi, hn⟩ := obnd hn
    split at hn
    case isFalse => cases hn
    rename_i hc
    cases hn
    simp only [Bool.and_eq_true, Bool.not_eq_true', List.isEmpty_eq_false_iff, decide_eq_true_eq, List.all_eq_true] at hc
    obtain ⟨⟨c1, c2⟩, c3⟩ := hc
    obtain ⟨p, vs, rfl, hp, hd⟩ := Den.tup_iff.mp a
    rw [intsD_dens hi hd] at hp
    refine ⟨.cons ⟨p, rfl, .of (hf _ _ hp)⟩ i1, fun x hx => ?_⟩
    rcases List.mem_cons.mp hx with rfl | hx
    · refine ⟨?_, c2, fun z hz => ?_⟩
      · rcases Nat.eq_zero_or_pos x.length with e | e
        · exact absurd (List.eq_nil_of_length_eq_zero e) c1
        · exact e
      · have := c3 z hz
        omega
    · exact i2 x hx
theorem asc_pw : ∀ {nss : List (List Int)}, ascB nss = true → nss.Pairwise fun a b => ltI a b = true
  | [], _ => .nil
  | n :: ns, h => by
    simp only [ascB, Bool.and_eq_true, List.all_eq_true] at h
    exact .cons h.1 (asc_pw h.2)
theorem bi_ok (hc : X.calm = true) {b : Bi} (hb : plainBi b = true) {vs : List Val} {st : Sto} {d : D} (h : biV b vs st = some d) : ∃ R : List V → Hp → VK → Prop, CallR X (biF b) R ∧ ∀ (F B : Hp) (as : List Addr) (env : Env) (σ : L2.St) (H : Hp) (us : List V) (Q : VK), Rel X.K cs F B as env st σ H →
    Paired (VOk X.K F B as) vs us → (∀ F' H' u, Rel X.K cs F' B as env st σ H' → Ext F as H F' as H' → Den X.K F' d u → Q u H') → R us H Q := by
  unfold biV at h
  split at h
  · obtain ⟨n, hn, e⟩ := omap h
    subst e
    refine ⟨_, call_len.or call_lenR, fun F B as env σ H us Q r p k => ?_⟩
    obtain ⟨u, rfl, q⟩ := paired1 p
    exact top_len hc r.toRSt hn q (k F H _ r r.refl (Den.int_iff.mpr rfl))
  · cases h
    refine ⟨_, call_abs, fun F B as env σ H us Q r p k => ?_⟩
    obtain ⟨u, rfl, q⟩ := paired1 p
    exact ⟨_, by rw [int_of q], k F H _ r r.refl (Den.int_iff.mpr rfl)⟩
  · cases h
    refine ⟨_, call_int1, fun F B as env σ H us Q r p k => ?_⟩
    obtain ⟨u, rfl, q⟩ := paired1 p
    exact .inl ⟨_, by rw [int_of q], k F H _ r r.refl (Den.int_iff.mpr rfl)⟩
  · cases h
    refine ⟨_, call_int1, fun F B as env σ H us Q r p k => ?_⟩
    obtain ⟨u, rfl, q⟩ := paired1 p
    exact .inr ⟨_, by rw [bl_of q], k F H _ r r.refl (Den.int_iff.mpr rfl)⟩
  · split at h
    · rename_i hl
      cases h
      refine ⟨_, call_str_int, fun F B as env σ H us Q r p k => ?_⟩
      obtain ⟨u, rfl, q⟩ := paired1 p
      exact ⟨_, by rw [int_of q], hl, k F H _ r r.refl (Den.str_iff.mpr (by rw [digs_ok]))⟩
    · cases h
  · rename_i v
    split at h
    · rename_i ds hs
      cases h
      refine ⟨_, call_tuple_of, fun F B as env σ H us Q r p k => ?_⟩
      obtain ⟨u, rfl, q⟩ := paired1 p
      obtain ⟨a, us, rfl, ha, hq⟩ := asT_ok r.toRSt hs q
      refine ⟨a, us, rfl, .inr ⟨.of ha, k F H _ r r.refl ?_⟩⟩
      unfold asT at hs
      split at hs
      · cases hs; exact q
      · cases hs
    · obtain ⟨ds, hd, e⟩ := omap h
      subst e
      refine ⟨_, call_tuple_of, fun F B as env σ H us Q r p k => ?_⟩
      obtain ⟨u, rfl, q⟩ := paired1 p
      obtain ⟨a, us, rfl, ha, hq⟩ := asL_ok r.toRSt hd q
      refine ⟨a, us, rfl, .inl ⟨ha, fun t ht => ?_⟩⟩
      obtain ⟨r2, x2, v2⟩ := r.put (d := .tup ds) (o := .tup us) ht fun F2 hf h2 => Den.tup_iff.mpr ⟨t, _, rfl, h2, Dens.mono hf _ _ hq⟩
      exact k _ _ _ r2 x2 v2
  · obtain ⟨ds, hd, h⟩ := obnd h
    obtain ⟨ns, hn, e⟩ := omap h
    subst e
    refine ⟨_, cr_sum hc, fun F B as env σ H us Q r p k => ?_⟩
    obtain ⟨u, rfl, q⟩ := paired1 p
    obtain ⟨a, us, rfl, ha, hq⟩ := asL_ok r.toRSt hd q
    rw [intsD_ok hn hq] at ha
    exact ⟨a, ns, rfl, ha, k F H _ r r.refl (Den.int_iff.mpr rfl)⟩
  · obtain ⟨ds, hd, h⟩ := obnd h
    obtain ⟨ns, hn, h⟩ := obnd h
    obtain ⟨m, hm, e⟩ := omap h
    subst e
    refine ⟨_, cr_max hc, fun F B as env σ H us Q r p k => ?_⟩
    obtain ⟨u, rfl, q⟩ := paired1 p
    obtain ⟨a, us, rfl, ha, hq⟩ := asL_ok r.toRSt hd q
    rw [intsD_ok hn hq] at ha
    obtain ⟨m1, m2⟩ := maxOf_ok hm
    refine ⟨a, ns, rfl, ha, List.length_pos_of_mem m1, fun m' h1 h2 => ?_⟩
    have e : m' = m := Int.le_antisymm (m2 _ h1) (h2 _ m1)
    subst e
    exact k F H _ r r.refl (Den.int_iff.mpr rfl)
  · obtain ⟨ds, hd, h⟩ := obnd h
    obtain ⟨ns, hn, h⟩ := obnd h
    obtain ⟨m, hm, e⟩ := omap h
    subst e
    refine ⟨_, cr_min hc, fun F B as env σ H us Q r p k => ?_⟩
    obtain ⟨u, rfl, q⟩ := paired1 p
    obtain ⟨a, us, rfl, ha, hq⟩ := asL_ok r.toRSt hd q
    rw [intsD_ok hn hq] at ha
    obtain ⟨m1, m2⟩ := minOf_ok hm
    refine ⟨a, ns, rfl, ha, List.length_pos_of_mem m1, fun m' h1 h2 => ?_⟩
    have e : m' = m := Int.le_antisymm (h2 _ m1) (m2 _ h1)
    subst e
    exact k F H _ r r.refl (Den.int_iff.mpr rfl)
  · obtain ⟨ds, hd, h⟩ := obnd h
    obtain ⟨ns, hn, e⟩ := omap h
    subst e
    refine ⟨_, cr_all hc, fun F B as env σ H us Q r p k => ?_⟩
    obtain ⟨u, rfl, q⟩ := paired1 p
    obtain ⟨a, us, rfl, ha, hq⟩ := asL_ok r.toRSt hd q
    rw [boolsD_ok hn hq] at ha
    exact ⟨a, ns, rfl, ha, k F H _ r r.refl (Den.bl_iff.mpr rfl)⟩
  · obtain ⟨ds, hd, h⟩ := obnd h
    obtain ⟨ns, hn, e⟩ := omap h
    subst e
    refine ⟨_, cr_any hc, fun F B as env σ H us Q r p k => ?_⟩
    obtain ⟨u, rfl, q⟩ := paired1 p
    obtain ⟨a, us, rfl, ha, hq⟩ := asL_ok r.toRSt hd q
    rw [boolsD_ok hn hq] at ha
    exact ⟨a, ns, rfl, ha, k F H _ r r.refl (Den.bl_iff.mpr rfl)⟩
  · cases h
    refine ⟨_, call_max2 hc, fun F B as env σ H us Q r p k => ?_⟩
    obtain ⟨u, w, rfl, q, q'⟩ := paired2 p
    exact ⟨_, _, by rw [int_of q, int_of q'], k F H _ r r.refl (Den.int_iff.mpr rfl)⟩
  · cases h
    refine ⟨_, call_min2 hc, fun F B as env σ H us Q r p k => ?_⟩
    obtain ⟨u, w, rfl, q, q'⟩ := paired2 p
    exact ⟨_, _, by rw [int_of q, int_of q'], k F H _ r r.refl (Den.int_iff.mpr rfl)⟩
  · split at h
    case h_2 =>
      obtain ⟨ds, hd, h⟩ := obnd h
      split at h
      case isFalse => cases h
      rename_i hasc
      cases h
      unfold ascD at hasc
      rw [Bool.and_eq_true, decide_eq_true_eq] at hasc
      obtain ⟨h64, hasc⟩ := hasc
      split at hasc
      case h_2 => cases hasc
      rename_i nss hns
      refine ⟨_, cr_sortAsc, fun F B as env σ H us Q r p k => ?_⟩
      obtain ⟨u, rfl, q⟩ := paired1 p
      obtain ⟨a, us, rfl, ha, hq⟩ := asL_ok r.toRSt hd q
      obtain ⟨p1, p2⟩ := tupsI_ok (X := X) hns hq r.toRSt.fh
      refine ⟨a, us, nss, rfl, ha, by rw [hq.length]; exact h64, p1, p2, asc_pw hasc, fun t ht => ?_⟩
      obtain ⟨r2, x2, v2⟩ := r.put (d := .lst ds) (o := .lst us) ht fun F2 hf h2 => Den.lst_iff.mpr ⟨t, us, rfl, h2, Dens.mono hf _ _ hq⟩
      exact k _ _ _ r2 x2 v2
    rename_i d0 heq
    cases h
    obtain ⟨ds, hd, h⟩ := obnd heq
    obtain ⟨ws, hw, h⟩ := obnd h
    split at h
    case isFalse => cases h
    rename_i hl
    cases h
    unfold soL at hd
    split at hd
    · rename_i ds' hd'
      cases hd
      refine ⟨_, cr_sortedS, fun F B as env σ H us Q r p k => ?_⟩
      obtain ⟨u, rfl, q⟩ := paired1 p
      obtain ⟨a, us, rfl, ha, hq⟩ := asL_ok r.toRSt hd' q
      rw [textsD_ok hw hq] at ha
      refine ⟨a, _, rfl, ha, by rw [List.length_map]; exact hl, fun ys t hp hs ht => ?_⟩
      rw [sorted_is hp hs]
      obtain ⟨r2, x2, v2⟩ := r.put (d := .lst ((sortW ws).map .str)) (o := .lst (((sortW ws).map S).map V.str)) ht fun F2 hf h2 => Den.lst_iff.mpr ⟨t, _, rfl, h2, dens_texts _⟩
      exact k _ _ _ r2 x2 v2
    · obtain ⟨⟨ks, es⟩, hq, e⟩ := omap hd
      subst e
      refine ⟨_, call_sortedD hc, fun F B as env σ H us Q r p k => ?_⟩
      obtain ⟨u, rfl, q⟩ := paired1 p
      have hs' := asDK_snap hq
      obtain ⟨a, us, rfl, ha, hle, hqd⟩ := top_dK r.toRSt hs' q
      have hkw := texts_keys hw
      refine ⟨a, _, ws.map S, rfl, ha, ?_, by rw [List.length_map]; exact hl, fun ys t hp hs ht => ?_⟩
      · rw [List.map_fst_zip (by rw [List.length_map, hle, hqd.length]; exact Nat.le_refl _)]
        dsimp only at hkw
        rw [hkw, List.map_map, List.map_map]
        rfl
      · rw [sorted_is hp hs]
        obtain ⟨r2, x2, v2⟩ := r.put (d := .lst ((sortW ws).map .str)) (o := .lst (((sortW ws).map S).map V.str)) ht fun F2 hf h2 => Den.lst_iff.mpr ⟨t, _, rfl, h2, dens_texts _⟩
        exact k _ _ _ r2 x2 v2
  · cases hb
  · cases hb
  · cases h
def fBi (b : Bi) (g : Env → Sto → Option (List Val × Sto)) : Env → Sto → Option (Val × Sto) := fun env st => (g env st).bind fun r => (biV b r.1 r.2).map fun d => (.dat d, r.2)
theorem s_bi {b : Bi} {p : Pos} (hb : plainBi b = true) (hc : X.calm = true) (hg : Gl X (biN b)) (hm : X.mg (biN b) = none) (ha : PA X (e :: es) (tEs X.K cs g)) (hs : starEach (e :: es) X.env = (false, eval e X.env) :: starEach es X.env) (ht : ((backTo pos (starEach es X.env)).any (·.1)) = false) :
    PE X (.Call (.Name (biN b) p) (e :: es) [] pos) (tE X.K cs (fBi b g)) := by
  refine ⟨fun pins s σ H Q I h => ?_⟩
  obtain ⟨F, B, as, env, st, v, st', r, ev, k⟩ := h
  obtain ⟨⟨vs, s1⟩, e1, ev1⟩ := obnd ev
  obtain ⟨d, hd, ev2⟩ := omap ev1
  clear ev ev1
  cases ev2
  obtain ⟨R, hR, hk⟩ := bi_ok (cs := cs) hc hb hd
  have rd : tCB R (tEs X.K cs g) σ H Q := ⟨F, B, as, env, st, vs, s1, r, e1, fun F' as' H' us r' x' v1 => hk F' B as' env σ H' us Q r' v1 fun F2 H2 u r2 x2 q2 => k F2 as' H2 u r2 (x'.trans x2) q2⟩
  cases b with
  | len => exact (pe_callB (id := "len") hR hg hm PySem.boot_len ha (by decide) (by decide) hs ht).run pins s σ H Q I rd
  | abs => exact (pe_callB (id := "abs") hR hg hm (by decide +kernel) ha (by decide) (by decide) hs ht).run pins s σ H Q I rd
  | int => exact (pe_callTy (T := "int") hR hg hm (by decide +kernel) ha (by decide) (by decide) hs ht).run pins s σ H Q I rd
  | str => exact (pe_callTy (T := "str") hR hg hm (by decide +kernel) ha (by decide) (by decide) hs ht).run pins s σ H Q I rd
  | list => simp [biV] at hd
  | tuple => exact (pe_callTy (T := "tuple") hR hg hm (by decide +kernel) ha (by decide) (by decide) hs ht).run pins s σ H Q I rd
  | dict => simp [biV] at hd
  | sorted => exact (pe_callB (id := "sorted") hR hg hm (by decide +kernel) ha (by decide) (by decide) hs ht).run pins s σ H Q I rd
  | sum => exact (pe_callB (id := "sum") hR hg hm (by decide +kernel) ha (by decide) (by decide) hs ht).run pins s σ H Q I rd
  | max => exact (pe_callB (id := "max") hR hg hm (by decide +kernel) ha (by decide) (by decide) hs ht).run pins s σ H Q I rd
  | min => exact (pe_callB (id := "min") hR hg hm (by decide +kernel) ha (by decide) (by decide) hs ht).run pins s σ H Q I rd
  | all => exact (pe_callB (id := "all") hR hg hm (by decide +kernel) ha (by decide) (by decide) hs ht).run pins s σ H Q I rd
  | any => exact (pe_callB (id := "any") hR hg hm (by decide +kernel) ha (by decide) (by decide) hs ht).run pins s σ H Q I rd
  | max2 => exact (pe_callB (id := "max") hR hg hm (by decide +kernel) ha (by decide) (by decide) hs ht).run pins s σ H Q I rd
  | min2 => exact (pe_callB (id := "min") hR hg hm (by decide +kernel) ha (by decide) (by decide) hs ht).run pins s σ H Q I rd
  | maxD => cases hb
  | sset => cases hb
/-! ### isinstance, of built-in types -/
def tyS : Ty → String
  | .int => "int" | .bool => "bool" | .str => "str" | .tuple => "tuple" | .list => "list" | .dict => "dict"
def tyN (t : Ty) : Str := tyS t
theorem isTy_ok {F B H : Hp} {as : List Addr} {st : Sto} (r : RSt X.K cs F B as st H) {v : Val} {u : V} {d : D} {t : Ty} {b : Bool} (h : snap st v = some d) (q : VOk X.K F B as v u) (hb : isTy d t = some b) : ∃ ty, TyX X.K H u ty ∧ PySem.W.kitOne X.K ty (.type (tyS t)) = some b := by
  cases d with
  | non =>
    have e := Den.non_iff.mp (snap_dat r h q trivial)
    subst e
    refine ⟨_, .base .non, kit_ty ?_⟩
    cases t <;> simp [isTy] at hb <;> subst hb <;> decide +kernel
  | bl c =>
    have e := Den.bl_iff.mp (snap_dat r h q trivial)
    subst e
    refine ⟨_, .base (.bl c), kit_ty ?_⟩
    cases t <;> simp [isTy] at hb <;> subst hb <;> decide +kernel
  | int c =>
    have e := Den.int_iff.mp (snap_dat r h q trivial)
    subst e
    refine ⟨_, .base (.int c), kit_ty ?_⟩
    cases t <;> simp [isTy] at hb <;> subst hb <;> decide +kernel
  | str c =>
    have e := Den.str_iff.mp (snap_dat r h q trivial)
    subst e
    refine ⟨_, .base (.str _), kit_ty ?_⟩
    cases t <;> simp [isTy] at hb <;> subst hb <;> decide +kernel
  | tup ds =>
    obtain ⟨p, us, rfl, hp, hq⟩ := top_tup r h q
    refine ⟨_, .base (.tup hp), kit_ty ?_⟩
    cases t <;> simp [isTy] at hb <;> subst hb <;> decide +kernel
  | lst ds =>
    obtain ⟨p, us, rfl, hp, hq⟩ := top_lst r h q
    refine ⟨_, .base (.lst hp), kit_ty ?_⟩
    cases t <;> simp [isTy] at hb <;> subst hb <;> decide +kernel
  | dK ks ds =>
    obtain ⟨p, us, rfl, hp, hl, hq⟩ := top_dK r h q
    rcases hp with hp | ⟨o, hp⟩
    · refine ⟨_, .base (.dK hp), kit_ty ?_⟩
      cases t <;> simp [isTy] at hb <;> subst hb <;> decide +kernel
    · refine ⟨_, .fDict hp, kit_ty ?_⟩
      cases t <;> simp [isTy] at hb <;> subst hb <;> decide +kernel
  | dT _ _ => simp [isTy] at hb
  | scr _ => simp [isTy] at hb
def fIsi (t : Ty) (f : Env → Sto → Option (Val × Sto)) : Env → Sto → Option (Val × Sto) := fun env st => (f env st).bind fun r => (snap r.2 r.1).bind fun d => (isTy d t).map fun b => (.dat (.bl b), r.2)
theorem s_isi {t : Ty} {p p' : Pos} (hg : Gl X "isinstance") (hm : X.mg "isinstance" = none) (hgt : Gl X (tyN t)) (hmt : X.mg (tyN t) = none) (h : PE X e (tE X.K cs f)) (hs : nStar e = true) : PE X (.Call (.Name "isinstance" p) [e, .Name (tyN t) p'] [] pos) (tE X.K cs (fIsi t f)) := by
  have ht : PE X (.Name (tyN t) p') (tC (.ty (tyS t))) := by
    cases t <;> exact pe_bltn hgt hmt (by decide +kernel) rfl (by decide) (by decide)
  refine (pe_callB call_isi hg hm (by decide +kernel) (pa_cons h (pa_cons ht pa_nil) (noStar hs)) (by decide) (by decide) (noStar hs) rfl).weak fun σ H Q ⟨F, B, as, env, st, v, st', r, ev, k⟩ => ?_
  obtain ⟨⟨x, s1⟩, e1, ev1⟩ := obnd ev
  obtain ⟨d, hd, ev2⟩ := obnd ev1
  obtain ⟨b, hb, ev3⟩ := omap ev2
  clear ev ev1 ev2
  cases ev3
  refine ⟨F, B, as, env, st, x, s1, r, e1, fun F' as' H' u r' x' v1 => ?_⟩
  obtain ⟨ty, h1, h2⟩ := isTy_ok r'.toRSt hd v1 hb
  exact ⟨u, _, ty, _, b, rfl, .ty _, h1, h2, k F' as' H' _ r' x' vbl⟩
/-! ### methods -/
def fMt (m : Mt) (f : Env → Sto → Option (Val × Sto)) (g : Env → Sto → Option (List Val × Sto)) : Env → Sto → Option (Val × Sto) := fun env st => (f env st).bind fun r => (g env r.2).bind fun q => if kindV r.2 r.1 = kindV q.2 r.1 then mtV m r.1 q.1 q.2 else none
/-- a list that is changed: what a method's rule asks -/
theorem list_mt {F B : Hp} {as : List Addr} {env : Env} {st : Sto} {σ : L2.St} {H : Hp} (r : Rel X.K cs F B as env st σ H) {l : Nat} {ds : List D} {u : V} (hl : st[l]? = some (.lst ds)) (q : VOk X.K F B as (.ref l) u) : ∃ a us, u = .ref a ∧ as[l]? = some a ∧ H a = some (.lst us) ∧ Dens X.K F ds us ∧
    ∀ ds' us', Dens X.K F ds' us' → Rel X.K cs F B as env (st.set l (.lst ds')) σ (upd H a (.lst us')) ∧ Ext F as H F as (upd H a (.lst us')) := by
  obtain ⟨a, ea, rfl⟩ := q
  obtain ⟨_, ho', e1, us, rfl, hq⟩ := r.obj l a _ ea hl
  refine ⟨a, us, rfl, ea, e1, hq, fun ds' us' h => ?_⟩
  obtain ⟨r2, x2⟩ := r.toRSt.write (o' := .lst ds') (ho := .lst us') ea hl (by simp) ⟨_, rfl, h⟩
  exact ⟨r.slots x2 r2, x2⟩
def nSuper : Expr → Bool
  | .Call (.Name _ _) [] [] _ => false
  | _ => true
theorem noSuper {o : Expr} {m : Str} {env : PySem.Env} (h : nSuper o = true) (w : Sem Value) : attributeBase o m env w = w := by
  unfold attributeBase
  split
  · simp [nSuper] at h
  · rfl
def mtS : Mt → Str
  | .append => "append" | .pop => "pop" | .popAt => "pop" | .clear => "clear" | .get => "get" | .pop2 => "pop" | .join => "join" | .split => "split" | .partition => "partition" | .rpartition => "rpartition" | .startswith => "startswith"
  | .strip => "strip" | .lstrip => "lstrip" | .count => "count" | .index => "index" | .update => "update"
/-- the type of what a method is asked of -/
def kT (n : Nat) : String := match n with | 1 => "list" | 2 => "dict" | 3 => "str" | _ => ""
theorem kind_ok {F B H : Hp} {as : List Addr} {st : Sto} (r : RSt X.K cs F B as st H) {v : Val} {u : V} (q : VOk X.K F B as v u) (h : kindV st v = 1 ∨ kindV st v = 3 ∨ (kindV st v = 2 ∧ ∃ l, v = .ref l)) : tyV X.K (kT (kindV st v)) u H := by
  unfold kindV at h ⊢
  split
  · rename_i ds hs
    obtain ⟨p, us, rfl, hp, hq⟩ := top_lst r hs q
    exact .inl ⟨rfl, us, .of hp⟩
  · rename_i ks ds hs
    rw [hs] at h
    rcases h with h | h | ⟨_, l, rfl⟩
    · cases h
    · cases h
    obtain ⟨a, ea, rfl⟩ := q
    simp only [snap] at hs
    obtain ⟨o, ho, hf⟩ := obnd hs
    obtain ⟨_, hb, e1, e2⟩ := r.obj l a o ea ho
    cases o <;> simp [fzO] at hf
    obtain ⟨us, rfl, _⟩ := e2
    exact .inr (.inr (.inl ⟨rfl, .inl ⟨_, e1⟩⟩))
  · rename_i ks ds hs
    rw [hs] at h
    rcases h with h | h | ⟨_, l, rfl⟩
    · cases h
    · cases h
    obtain ⟨a, ea, rfl⟩ := q
    simp only [snap] at hs
    obtain ⟨o, ho, hf⟩ := obnd hs
    obtain ⟨_, hb, e1, e2⟩ := r.obj l a o ea ho
    cases o <;> simp [fzO] at hf
    obtain ⟨us, rfl, _⟩ := e2
    exact .inr (.inr (.inl ⟨rfl, .inr ⟨_, e1⟩⟩))
  · rename_i w hs
    have e := Den.str_iff.mp (snap_dat r hs q trivial)
    subst e
    rfl
  · rename_i h1 h2 h3 h4
    split at h <;> simp_all
def MtFact (X : Cx) (cs : Nat → Option Addr) (m : Mt) (x : Val) (vs : List Val) (st st' : Sto) (v : Val) : Prop := ∃ id R, (kindV st x = 1 ∨ kindV st x = 3 ∨ (kindV st x = 2 ∧ ∃ l, x = .ref l)) ∧ MtR X id R ∧ PlainAttrs (kT (kindV st x)) ∧ Slot (kT (kindV st x)) (mtS m) id ∧ typeOf (.builtin id) = pure (.type "method_descriptor") ∧
  ∀ (F B : Hp) (as : List Addr) (env : Env) (σ : L2.St) (H : Hp) (u : V) (us : List V) (Q : VK), Rel X.K cs F B as env st σ H → VOk X.K F B as x u → Paired (VOk X.K F B as) vs us →
    (∀ F' H' w, Rel X.K cs F' B as env st' σ H' → Ext F as H F' as H' → VOk X.K F' B as v w → Q w H') → R u us H Q
theorem kind_lst {st : Sto} {l : Nat} {ds : List D} (h : st[l]? = some (.lst ds)) : kindV st (.ref l) = 1 := by simp [kindV, snap, h, fzO]
theorem mt_pop_ok {x : Val} {st st' : Sto} {v : Val} (h : mtV .pop x [] st = some (v, st')) : MtFact X cs .pop x [] st st' v := by
  unfold mtV at h
  split at h <;> try contradiction
  rename_i l _ _
  split at h
  case h_2 => cases h
  rename_i ds hl
  obtain ⟨d, hd, e⟩ := omap h
  cases e
  have kl := kind_lst hl
  refine ⟨_, _, .inl kl, mt_pop, by rw [kl]; exact F.plainAttrs_list, by rw [kl]; exact F.slot_list_pop, F.type_list_pop, fun F B as env σ H u us Q r q p k => ?_⟩
  obtain ⟨a, us', rfl, ea, hH, hq, hk⟩ := list_mt r hl q
  cases p
  obtain ⟨w, hw, qw⟩ := hq.get hd
  obtain ⟨r2, x2⟩ := hk _ _ hq.dropLast
  exact ⟨a, us', w, rfl, rfl, hH, by rw [hq.length]; exact hw, k F _ w r2 x2 qw⟩
theorem kind_dK {st : Sto} {l : Nat} {ks : List K1} {ds : List D} (h : st[l]? = some (.dK ks ds)) : kindV st (.ref l) = 2 := by simp [kindV, snap, h, fzO]
theorem mt_popAt_ok {x y : Val} {st st' : Sto} {v : Val} (h : mtV .popAt x [y] st = some (v, st')) : MtFact X cs .popAt x [y] st st' v := by
  unfold mtV at h
  split at h <;> try contradiction
  rename_i l i _ he
  cases he
  split at h
  case h_2 => cases h
  rename_i ds hl
  split at h
  case isFalse => cases h
  rename_i hi
  obtain ⟨j, hj, h⟩ := obnd h
  obtain ⟨d, hd, e⟩ := omap h
  cases e
  have kl := kind_lst hl
  refine ⟨_, _, .inl kl, mt_popAt, by rw [kl]; exact F.plainAttrs_list, by rw [kl]; exact F.slot_list_pop, F.type_list_pop, fun F B as env σ H u us Q r q p k => ?_⟩
  obtain ⟨a, us', rfl, ea, hH, hq, hk⟩ := list_mt r hl q
  obtain ⟨w', rfl, qy⟩ := paired1 p
  obtain ⟨w, hw, qw⟩ := hq.get hd
  obtain ⟨r2, x2⟩ := hk _ _ (hq.eraseIdx j)
  exact ⟨a, us', i, j, w, rfl, congrArg (fun z => [z]) (int_of qy), hH, hi.1, hi.2, by rw [hq.length]; exact (ixN_seq (show ixN ds.length i = some j from hj)).1, hw, k F _ w r2 x2 qw⟩
theorem mt_clear_ok {x : Val} {st st' : Sto} {v : Val} (h : mtV .clear x [] st = some (v, st')) : MtFact X cs .clear x [] st st' v := by
  unfold mtV at h
  split at h <;> try contradiction
  rename_i l _ _
  split at h
  · rename_i ds hl
    cases h
    have kl := kind_lst hl
    refine ⟨_, _, .inl kl, mt_clear, by rw [kl]; exact F.plainAttrs_list, by rw [kl]; exact F.slot_list_clear, F.type_list_clear, fun F B as env σ H u us Q r q p k => ?_⟩
    obtain ⟨a, us', rfl, ea, hH, hq, hk⟩ := list_mt r hl q
    cases p
    obtain ⟨r2, x2⟩ := hk [] [] (Dens.nil.mpr rfl)
    exact ⟨a, us', rfl, rfl, hH, k F _ _ r2 x2 vnon⟩
  · rename_i ks ds hl
    cases h
    have kl := kind_dK hl
    refine ⟨_, _, .inr (.inr ⟨kl, _, rfl⟩), mtd_clear, by rw [kl]; exact F.plainAttrs_dict, by rw [kl]; exact F.slot_dict_clear, F.type_dict_clear, fun F B as env σ H u us Q r q p k => ?_⟩
    obtain ⟨a, ea, rfl⟩ := q
    obtain ⟨_, ho', e1, us', rfl, hl', hq⟩ := r.obj l a _ ea hl
    cases p
    obtain ⟨r2, x2⟩ := r.toRSt.write (o' := .dK [] []) (ho := .dK []) ea hl (by simp) ⟨[], rfl, rfl, Dens.nil.mpr rfl⟩
    exact ⟨a, _, rfl, rfl, e1, k F _ _ (r.slots x2 r2) x2 vnon⟩
  · cases h
theorem mt_append_ok {x y : Val} {st st' : Sto} {v : Val} (h : mtV .append x [y] st = some (v, st')) : MtFact X cs .append x [y] st st' v := by
  unfold mtV at h
  split at h <;> try contradiction
  rename_i l y' _ he
  cases he
  obtain ⟨⟨d, s1⟩, hd, h⟩ := obnd h
  dsimp only at h
  split at h
  case h_2 => cases h
  rename_i ds hl
  split at h
  case isFalse => cases h
  rename_i hlen
  cases h
  have kl : kindV st (.ref l) = 1 := by
    cases y with
    | dat _ => simp only [toD] at hd; cases hd; exact kind_lst hl
    | bor _ => simp [toD] at hd
    | ref m =>
      simp only [toD] at hd
      obtain ⟨d', _, e⟩ := omap hd
      cases e
      by_cases hm : m = l
      · subst hm
        rw [List.getElem?_set] at hl
        split at hl
        · split at hl <;> cases hl
        · rename_i hne; exact absurd rfl hne
      · rw [List.getElem?_set_ne hm] at hl
        exact kind_lst hl
  refine ⟨_, _, .inl kl, mt_append, by rw [kl]; exact F.plainAttrs_list, by rw [kl]; exact F.slot_list_append, F.type_list_append, fun F B as env σ H u us Q r q p k => ?_⟩
  obtain ⟨w', rfl, qy⟩ := paired1 p
  obtain ⟨F1, r1, x1, q1⟩ := toD_ok r hd qy
  obtain ⟨a, us', rfl, ea, hH, hq, hk⟩ := list_mt r1 hl (q.ext x1)
  obtain ⟨r2, x2⟩ := hk _ _ (hq.append (Dens.one q1))
  exact ⟨a, us', w', rfl, rfl, hH, by rw [hq.length, ← line_eq]; exact hlen, k F1 _ _ r2 (x1.trans x2) vnon⟩
/-- methods without an argument -/
theorem s_mt0 {m : Mt} {apos : Pos} (ho : PE X e (tE X.K cs f)) (h1 : nSuper e = true) (hl : (apos.endLine == pos.line) = true) (hm : ∀ x st v st', mtV m x [] st = some (v, st') → MtFact X cs m x [] st st' v) :
    PE X (.Call (.Attribute e (mtS m) apos) [] [] pos) (tE X.K cs (fMt m f fun _ st => some ([], st))) := by
  refine ⟨fun pins s σ H Q I ⟨F, B, as, env, st, v, st', r, ev, k⟩ => ?_⟩
  obtain ⟨⟨x, s1⟩, ex, ev1⟩ := obnd ev
  obtain ⟨⟨vs, s2⟩, ey, ev2⟩ := obnd ev1
  cases ey
  clear ev ev1
  split at ev2
  case isFalse => cases ev2
  obtain ⟨id, R, hk, hR, pa, sl, ty, go⟩ := hm _ _ _ _ ev2
  refine (pe_bm0 pa sl ty hR ho (noSuper h1 _) hl).run pins s σ H Q I ⟨F, B, as, env, st, x, s1, r, ex, fun F' as' H' u r' x' v1 => ⟨kind_ok r'.toRSt v1 hk, ?_⟩⟩
  exact go F' B as' env σ H' u [] Q r' v1 .nil fun F2 H2 w r2 x2 v2 => k F2 as' H2 w r2 (x'.trans x2) v2
/-- methods with one -/
theorem s_mt1 {m : Mt} {apos : Pos} (ho : PE X e (tE X.K cs f)) (he : PE X e1 (tE X.K cs f1)) (h1 : nSuper e = true) (h2 : nStar e1 = true) (hl : (apos.endLine == pos.line) = true) (hm : ∀ x y st v st', mtV m x [y] st = some (v, st') → MtFact X cs m x [y] st st' v) :
    PE X (.Call (.Attribute e (mtS m) apos) [e1] [] pos) (tE X.K cs (fMt m f fun env st => (f1 env st).bind fun r => (some ([], r.2)).map fun q => (r.1 :: q.1, q.2))) := by
  refine ⟨fun pins s σ H Q I ⟨F, B, as, env, st, v, st', r, ev, k⟩ => ?_⟩
  obtain ⟨⟨x, s1⟩, ex, ev1⟩ := obnd ev
  obtain ⟨⟨vs, s2⟩, ey, ev2⟩ := obnd ev1
  obtain ⟨⟨y, s3⟩, ez, e3⟩ := obnd ey
  cases e3
  clear ev ev1
  split at ev2
  case isFalse => cases ev2
  rename_i hkk
  dsimp only at hkk ev2
  obtain ⟨id, R, hk, hR, pa, sl, ty, go⟩ := hm _ _ _ _ _ ev2
  rw [← hkk] at hk pa sl
  refine (pe_bm pa sl ty hR ho (s_cons he s_nil h2) (noSuper h1 _) (by rw [noStar h2]; rfl) hl (noStar h2) rfl).run pins s σ H Q I ⟨F, B, as, env, st, x, s1, r, ex, fun F' as' H' u r' x' v1 => ⟨kind_ok r'.toRSt v1 hk, ?_⟩⟩
  refine ⟨F', B, as', env, s1, _, _, r', ey, fun F2 as2 H2 us r2 x2 v2 => ?_⟩
  exact go F2 B as2 env σ H2 u us Q r2 (v1.ext x2) v2 fun F3 H3 w r3 x3 v3 => k F3 as2 H3 w r3 ((x'.trans x2).trans x3) v3
theorem drop_zip {κ L : Type} [DecidableEq κ] [DecidableEq L] {g : κ → L} (inj : ∀ a b, g a = g b → a = b) {K : PySem.W.Frag} {F : Hp} (k : κ) : ∀ {ks : List κ} {ds : List D} {us : List V}, ks.length = ds.length → Dens K F ds us → ∃ us', dropK ((ks.map g).zip us) (g k) = (((ddrop ks ds k).1).map g).zip us' ∧ (ddrop ks ds k).1.length = (ddrop ks ds k).2.length ∧ Dens K F (ddrop ks ds k).2 us'
  | [], ds, us, hl, h => by
    cases ds with
    | nil => rw [Dens.nil.mp h]; exact ⟨[], rfl, rfl, Dens.nil.mpr rfl⟩
    | cons _ _ => simp at hl
  | a :: ks, [], us, hl, h => by simp at hl
  | a :: ks, d :: ds, us, hl, h => by
    obtain ⟨u, us', rfl, x, y⟩ := Dens.cons.mp h
    obtain ⟨us2, e1, e2, e3⟩ := drop_zip inj k (ks := ks) (ds := ds) (us := us') (by simpa using hl) y
    by_cases e : a = k
    · subst e
      refine ⟨us2, ?_, ?_, ?_⟩
      · rw [List.map_cons, List.zip_cons_cons]
        have z : dropK ((g a, u) :: (ks.map g).zip us') (g a) = dropK ((ks.map g).zip us') (g a) := List.filter_cons_of_neg (by simp)
        rw [z, e1]
        simp only [ddrop, if_true]
      · simp only [ddrop, if_true]; exact e2
      · simp only [ddrop, if_true]; exact e3
    · have en : ¬ g a = g k := fun z => e (inj _ _ z)
      refine ⟨u :: us2, ?_, ?_, ?_⟩
      · rw [List.map_cons, List.zip_cons_cons]
        have z : dropK ((g a, u) :: (ks.map g).zip us') (g k) = (g a, u) :: dropK ((ks.map g).zip us') (g k) := List.filter_cons_of_pos (by simp [en])
        rw [z, e1]
        simp only [ddrop, if_neg e, List.map_cons, List.zip_cons_cons]
      · simp only [ddrop, if_neg e, List.length_cons]; omega
      · simp only [ddrop, if_neg e]
        exact Dens.cons.mpr ⟨u, us2, rfl, x, e3⟩
theorem kind_dT {st : Sto} {l : Nat} {ks : List (List K1)} {ds : List D} (h : st[l]? = some (.dT ks ds)) : kindV st (.ref l) = 2 := by simp [kindV, snap, h, fzO]
/-- d.pop(k, x), k a tuple -/
theorem mt_pop2_ok (hu : X.A.units + 1 < cLine) {x y z : Val} {st st' : Sto} {v : Val} (h : mtV .pop2 x [y, z] st = some (v, st')) : MtFact X cs .pop2 x [y, z] st st' v := by
  unfold mtV at h
  split at h <;> try contradiction
  rename_i l kd dd _ he
  cases he
  split at h
  case h_2 => cases h
  rename_i ks ds hl
  obtain ⟨k, hk, e⟩ := omap h
  have kl := kind_dT hl
  refine ⟨_, _, .inr (.inr ⟨kl, _, rfl⟩), L2.DX.mt_popT hu, by rw [kl]; exact F.plainAttrs_dict, by rw [kl]; exact F.slot_dict_pop, F.type_dict_pop, fun F B as env σ H u us Q r q p kont => ?_⟩
  obtain ⟨a, ea, rfl⟩ := q
  obtain ⟨_, ho', e1, us', rfl, hl', hq⟩ := r.obj l a _ ea hl
  obtain ⟨wk, wd, rfl, qk, qd⟩ := paired2 p
  obtain ⟨c, rfl, hc⟩ := toTK_ok hk qk
  refine ⟨a, _, k.map kk, c, wd, rfl, rfl, e1, r.fh _ _ hc, fun v0 hv => ?_, fun hv => ?_⟩
  · rcases dlook_zip (g := fun l : List K1 => l.map kk) (fun _ _ => kk_map_inj) k hl' hq with ⟨d, x, h1, h2, h3⟩ | ⟨h1, h2⟩
    · rw [h1] at e
      cases e
      obtain ⟨us2, g1, g2, g3⟩ := drop_zip (g := fun l : List K1 => l.map kk) (fun _ _ => kk_map_inj) k hl' hq
      obtain ⟨r2, x2⟩ := r.toRSt.write (o' := .dT (ddrop ks ds k).1 (ddrop ks ds k).2) (ho := .dT (dropK ((ks.map fun l => l.map kk).zip us') (k.map kk))) ea hl (by simp) ⟨us2, by rw [g1], g2, g3⟩
      have ex : v0 = x := by
        have : some v0 = some x := hv.symm.trans h2
        injection this
      subst ex
      exact kont F _ v0 (r.slots x2 r2) x2 h3
    · have : some v0 = none := hv.symm.trans h2
      cases this
  · rcases dlook_zip (g := fun l : List K1 => l.map kk) (fun _ _ => kk_map_inj) k hl' hq with ⟨d, x, h1, h2, h3⟩ | ⟨h1, h2⟩
    · have : none = some x := hv.symm.trans h2
      cases this
    · rw [h1] at e
      cases e
      exact kont F H wd r r.refl qd
/-- methods with two -/
theorem s_mt2 {m : Mt} {apos : Pos} (ho : PE X e (tE X.K cs f)) (he : PE X e1 (tE X.K cs f1)) (hf : PE X e2 (tE X.K cs f2)) (h1 : nSuper e = true) (h2 : nStar e1 = true) (h3 : nStar e2 = true) (hl : (apos.endLine == pos.line) = true) (hm : ∀ x y z st v st', mtV m x [y, z] st = some (v, st') → MtFact X cs m x [y, z] st st' v) :
    PE X (.Call (.Attribute e (mtS m) apos) [e1, e2] [] pos) (tE X.K cs (fMt m f fun env st => (f1 env st).bind fun r => ((f2 env r.2).bind fun r => (some ([], r.2)).map fun q => (r.1 :: q.1, q.2)).map fun q => (r.1 :: q.1, q.2))) := by
  refine ⟨fun pins s σ H Q I ⟨F, B, as, env, st, v, st', r, ev, k⟩ => ?_⟩
  obtain ⟨⟨x, s1⟩, ex, ev1⟩ := obnd ev
  obtain ⟨⟨vs, s2⟩, ey, ev2⟩ := obnd ev1
  obtain ⟨⟨y, s3⟩, ez, e3⟩ := obnd ey
  obtain ⟨⟨ws, s4⟩, e4, e5⟩ := omap e3
  obtain ⟨⟨z, s5⟩, e6, e7⟩ := obnd e4
  cases e7
  cases e5
  clear ev ev1 e3 e4
  split at ev2
  case isFalse => cases ev2
  rename_i hkk
  dsimp only at hkk ev2
  obtain ⟨id, R, hk, hR, pa, sl, ty, go⟩ := hm _ _ _ _ _ _ ev2
  rw [← hkk] at hk pa sl
  refine (pe_bm pa sl ty hR ho (s_cons he (s_cons hf s_nil h3) h2) (noSuper h1 _) (by rw [noStar h2, noStar h3]; rfl) hl (noStar h2) (by rw [noStar h3]; rfl)).run pins s σ H Q I ⟨F, B, as, env, st, x, s1, r, ex, fun F' as' H' u r' x' v1 => ⟨kind_ok r'.toRSt v1 hk, ?_⟩⟩
  refine ⟨F', B, as', env, s1, _, _, r', ey, fun F2 as2 H2 us r2 x2 v2 => ?_⟩
  exact go F2 B as2 env σ H2 u us Q r2 (v1.ext x2) v2 fun F3 H3 w r3 x3 v3 => k F3 as2 H3 w r3 ((x'.trans x2).trans x3) v3
/-- d.get(k, x) -/
theorem s_get {apos : Pos} (hu : X.A.units + 200 < cLine) (ho : PE X e (tE X.K cs f)) (he : PE X e1 (tE X.K cs f1)) (hf : PE X e2 (tE X.K cs f2)) (h1 : nSuper e = true) (h2 : nStar e1 = true) (h3 : nStar e2 = true) (hl : (apos.endLine == pos.line) = true) :
    PE X (.Call (.Attribute e "get" apos) [e1, e2] [] pos) (tE X.K cs (fMt .get f fun env st => (f1 env st).bind fun r => ((f2 env r.2).bind fun r => (some ([], r.2)).map fun q => (r.1 :: q.1, q.2)).map fun q => (r.1 :: q.1, q.2))) := by
  refine (pe_dget2 (by omega) ho he hf ⟨noSuper h1 _, by rw [noStar h2, noStar h3]; rfl, hl, by rw [noStar h2, noStar h3]; rfl⟩).weak fun σ H Q ⟨F, B, as, env, st, v, st', r, ev, k⟩ => ?_
  obtain ⟨⟨x, s1⟩, ex, ev1⟩ := obnd ev
  obtain ⟨⟨vs, s2⟩, ey, ev2⟩ := obnd ev1
  obtain ⟨⟨y, s3⟩, ez, e3⟩ := obnd ey
  obtain ⟨⟨ws, s4⟩, e4, e5⟩ := omap e3
  obtain ⟨⟨z, s5⟩, e6, e7⟩ := obnd e4
  cases e7
  cases e5
  clear ev ev1 ey e3 e4
  dsimp only at ev2
  split at ev2
  case isFalse => cases ev2
  rename_i hkk
  unfold mtV at ev2
  split at ev2 <;> try contradiction
  rename_i x _ _ _ kd dd _ he
  cases he
  have isd : ∀ {F' H' : Hp} {as' : List Addr} {u : V}, Rel X.K cs F' B as' env s1 σ H' → VOk X.K F' B as' x u → kindV s1 x = 2 → ∃ a, u = .ref a ∧ IsD H' a := fun r' q hk => by
    unfold kindV at hk
    split at hk <;> try cases hk
    · rename_i ks ds hs
      obtain ⟨p, us, rfl, hp, _⟩ := top_dK r'.toRSt hs q
      exact ⟨p, rfl, .inl ⟨_, hp⟩⟩
    · rename_i ks ds hs
      obtain ⟨p, us, rfl, hp, _⟩ := top_dT r'.toRSt hs q
      exact ⟨p, rfl, .inr ⟨_, hp⟩⟩
  refine ⟨F, B, as, env, st, x, s1, r, ex, fun F1 as1 H1 u r1 x1 v1 => ?_⟩
  split at ev2
  · rename_i ks ds hs
    obtain ⟨kx, hkx, e⟩ := omap ev2
    cases e
    obtain ⟨a, rfl, hd⟩ := isd r1 v1 (by rw [hkk]; simp [kindV, hs])
    refine ⟨a, rfl, hd, F1, B, as1, env, s1, _, s3, r1, ez, fun F2 as2 H2 w2 r2 x2 v2 => ⟨F2, B, as2, env, s3, _, _, r2, e6, fun F3 as3 H3 w3 r3 x3 v3 => ?_⟩⟩
    obtain ⟨a', o, ea, g, hz⟩ := get_dK r3.toRSt hs ((v1.ext x2).ext x3) hkx (Den.mono x3.ff _ _ v2)
    cases ea
    refine ⟨o, g, ?_⟩
    rcases hz with ⟨d', x0, e1', e2', e3'⟩ | ⟨e1', e2'⟩
    · subst e2'
      exact k F3 as3 H3 x0 r3 ((x1.trans x2).trans x3) (by rw [e1']; exact e3')
    · subst e2'
      exact k F3 as3 H3 w3 r3 ((x1.trans x2).trans x3) (by rw [e1']; exact v3)
  · rename_i ks ds hs
    obtain ⟨kx, hkx, e⟩ := omap ev2
    cases e
    obtain ⟨a, rfl, hd⟩ := isd r1 v1 (by rw [hkk]; simp [kindV, hs])
    refine ⟨a, rfl, hd, F1, B, as1, env, s1, _, s3, r1, ez, fun F2 as2 H2 w2 r2 x2 v2 => ⟨F2, B, as2, env, s3, _, _, r2, e6, fun F3 as3 H3 w3 r3 x3 v3 => ?_⟩⟩
    obtain ⟨a', o, ea, g, hz⟩ := get_dT r3.toRSt hs ((v1.ext x2).ext x3) hkx (Den.mono x3.ff _ _ v2)
    cases ea
    refine ⟨o, g, ?_⟩
    rcases hz with ⟨d', x0, e1', e2', e3'⟩ | ⟨e1', e2'⟩
    · subst e2'
      exact k F3 as3 H3 x0 r3 ((x1.trans x2).trans x3) (by rw [e1']; exact e3')
    · subst e2'
      exact k F3 as3 H3 w3 r3 ((x1.trans x2).trans x3) (by rw [e1']; exact v3)
  · cases ev2
end
end NK
set_option Elab.async false
set_option linter.all false
set_option autoImplicit false
set_option maxRecDepth 100000
/-! NkL2: enumerate of tuples, zip of a list and a tuple, join, startswith. -/
namespace NK
open PySem PySem.Spec PyProof.Rows L2
open AutoSeq1 (wpAny_loadPart')
theorem meets_enum_newT (l : Addr) (items : Array Value) :
    Meets (Builtin.«enumerate.__new__» ⟨[.type "enumerate", .ref l], []⟩) (fun _ R s => s.heap.IsTuple l items ∧
      R (.ok (.ret (.ref (s.heap.push { cls := .type "tuple_iterator", data := .fields #[.ref l, .int 0 0] }).objs.size)))
        { s with heap := (s.heap.push { cls := .type "tuple_iterator", data := .fields #[.ref l, .int 0 0] }).push { cls := .type "enumerate", data := .fields #[.none, .bool false, .ref s.heap.objs.size, rawInt 0, .none, .none] } }) :=
  .of_wp fun prog w A R s h => by
    obtain ⟨hp, g, d, tk, os⟩ := s; obtain ⟨hl, h⟩ := h
    have hsub := sub_enumerate
    have hL : Heap.IsTuple (Shared.heap ⟨hp, g, d, tk, os⟩) l items := hl
    wp_walk
    refine wpAny_stack_any fun st => wpAny_pure ?_
    split
    · rename_i c _ _ _ _ _
      cases (c == Value.type "enumerate")
      · wp_walk using wpAny_pyIter_tuple hL
        exact ⟨_, rfl, h⟩
      · wp_walk using wpAny_pyIter_tuple hL
        exact ⟨_, rfl, h⟩
    · wp_walk using wpAny_pyIter_tuple hL
      exact ⟨_, rfl, h⟩
theorem call_enumT {prog : Program} {w : World} {A : Around} {E : Value → Shared → Prop} {s : Shared} {l : Addr} {items : Array Value} {Q : Value → Shared → Prop} (hL : s.heap.IsTuple l items)
    (h : ∀ h', IsEnum h' (s.heap.objs.size + 1) s.heap.objs.size 0 .none → h'.IsTupleIter s.heap.objs.size l 0 → h'.objs.size = s.heap.objs.size + 2 →
      (∀ b o, s.heap.get? b = some o → h'.get? b = some o) → Q (.ref (s.heap.objs.size + 1)) { s with heap := h' }) :
    wpAny (model prog w) A (PySem.call (.type "enumerate") [.ref l]) Q E s := by
  refine callType_new F.called_enumerate (by decide) (F.typeCall_enumerate_1 _) (F.newCall_enumerate_1 _) (fun obj => F.args_object_init_2 obj _) F.entry_enumerate_new
    (meets_enum_newT l items) ⟨hL, ?_⟩
  have hz : (s.heap.push { cls := .type "tuple_iterator", data := .fields #[.ref l, .int 0 0] }).objs.size = s.heap.objs.size + 1 := Heap.size_push ..
  show _ ∧ _
  rw [hz]
  have he : IsEnum ((s.heap.push { cls := .type "tuple_iterator", data := .fields #[.ref l, .int 0 0] }).push
      { cls := .type "enumerate", data := .fields #[.none, .bool false, .ref s.heap.objs.size, rawInt 0, .none, .none] }) (s.heap.objs.size + 1) s.heap.objs.size 0 .none := by
    have := Heap.get?_push_size (s.heap.push { cls := .type "tuple_iterator", data := .fields #[.ref l, .int 0 0] })
      (o := { cls := .type "enumerate", data := .fields #[.none, .bool false, .ref s.heap.objs.size, rawInt 0, .none, .none] }) rfl
    rw [hz] at this; exact this
  refine ⟨⟨_, he, rfl⟩, h _ he ⟨_, Heap.get?_push_of_some _ (Heap.get?_push_size _ rfl), rfl, rfl⟩ (by rw [Heap.size_push, hz]) fun b o x => Heap.get?_push_of_some _ (Heap.get?_push_of_some _ x)⟩
/-- the tuple at a, each item in a new pair with its number -/
def IteT (K : PySem.W.Frag) (a : Addr) : It :=
  ⟨fun i H => ∃ (xs : List V) (x : V), SqT K H a xs ∧ xs[i]? = some x, fun i H v H' => ∃ T x, v = .ref T ∧ H T = none ∧ H' = upd H T (.tup [.int (i : Nat), x]) ∧ ∀ xs, SqT K H a xs → xs[i]? = some x, fun i H => ∃ xs : List V, SqT K H a xs ∧ xs.length ≤ i⟩
theorem turn_enumT {P : Program} {w : World} {K : PySem.W.Frag} {elts : List Expr} {kk : Nat} {tpos : Pos} (a e it : Addr) (hai : a ≠ it) (hae : a ≠ e) :
    Turn P w K (.Tuple elts kk tpos) (IteT K a) [e, it] e (fun i h => (∃ old, IsEnum h e it ((i : Nat) : Int) old) ∧ h.IsTupleIter it a i ∧ e ≠ it) where
  mem := by simp
  obj := fun i h st b hb => by
    obtain ⟨⟨old, he⟩, ⟨o, ho, hc, hd⟩, _⟩ := st
    have e' : b = e ∨ b = it := by simpa using hb
    rcases e' with z | z
    · rw [z]; exact ⟨_, he, fun v q => nomatch q⟩
    · rw [z]; exact ⟨o, ho, fun v q => by rw [hd] at q; cases q⟩
  keep := fun i h h' st k => let ⟨⟨old, he⟩, hi, hne⟩ := st; ⟨⟨old, k e (by simp) _ he⟩, hi.at fun o q => k it (by simp) o q, hne⟩
  item := by
    intro X hP hw hK hc i pins s σ H E I hf st hg
    subst hP hw hK
    obtain ⟨⟨old, he⟩, hit, hne⟩ := st
    obtain ⟨xs, x, hq, hx⟩ := hg
    obtain ⟨its, rv, p, hz⟩ := I.tuple hq
    obtain ⟨u, hu, ru⟩ := rv.get hx
    have hel : e < s.heap.objs.size := Heap.lt_size he
    have hil : it < s.heap.objs.size := by obtain ⟨_, q, _⟩ := hit; exact Heap.lt_size q
    have D := Draws.tuple (prog := X.prog) (w := X.w) (A := X.A.in1) (by simp [I.ok.hd hc]) it a hai its.toArray
    have hlt : i < its.toArray.size := by
      rw [List.size_toArray]
      exact (List.getElem?_eq_some_iff.mp hu).1
    refine wpAny_pyNext_enum_itemD D he ⟨hit, p⟩ hlt hne (by simp [Ne.symm hae, hne]) fun x' h' tk hPx ho hst hT hsz hk => ?_
    have hxu : x' = u := by
      have h1 : its.toArray[i]? = some u := by simpa using hu
      exact Option.some.inj (hPx.symm.trans h1)
    subst hxu
    refine ⟨_, rfl, wpAny_letOwnedTupleGo_enum (s := { s with heap := h', toks := tk + 1 }) ho fun h'' he' sb => ?_⟩
    have hT2 : h''.get? s.heap.objs.size = some { cls := .type "tuple", data := .seq #[.int i tk, x'] } := (sb.2 _ (Nat.ne_of_gt hel)).trans hT
    have new : ObjOk X.prog X.w (upd H s.heap.objs.size (.tup [.int (i : Nat), x])) h'' s.heap.objs.size (.tup [.int (i : Nat), x]) :=
      ⟨by show 2 ≤ sizeLine; decide, [.int i tk, x'], .cons ⟨_, rfl⟩ (.cons ru .nil), ⟨_, hT2, rfl, _, rfl⟩⟩
    have I1 : Inv X pins σ (upd H s.heap.objs.size (.tup [.int (i : Nat), x])) { s with heap := h'', toks := tk + 1 } :=
      I.turnedNew (ch := [e, it]) (fun b ob hb q => (sb.2 b (fun z => hb (by simp [z]))).trans (hk b ob (fun z => hb (by simp [z])) (fun z => hb (by simp [z])) q)) hf (Nat.le_refl _) new
    refine ⟨.ref s.heap.objs.size, _, I1, rfl, ⟨_, x, rfl, I.hok.fresh (Nat.le_refl _), rfl, fun ys hy => by rw [I.tuple_inj hy hq]; exact hx⟩, ⟨⟨x', ?_⟩, hst.1.at fun o q => (sb.2 it (Ne.symm hne)).trans q, hne⟩, fun b hb => ?_⟩
    · have e1 : ((i + 1 : Nat) : Int) = (i : Int) + 1 := by omega
      rw [e1]; exact he'
    · have hb' : b < s.heap.objs.size := by
        have e' : b = e ∨ b = it := by simpa using hb
        rcases e' with z | z
        · rw [z]; exact hel
        · rw [z]; exact hil
      rw [upd_ne (Nat.ne_of_lt hb')]
      exact (hf b hb).1
  done := by
    intro X hP hw hK hc i pins s σ H E I hf st hg
    subst hP hw hK
    obtain ⟨⟨old, he⟩, hit, hne⟩ := st
    obtain ⟨xs, hq, hx⟩ := hg
    obtain ⟨its, rv, p, hz⟩ := I.tuple hq
    obtain ⟨f0, f1, f2, f3, f4, f5⟩ := hf it (by simp)
    have hl := rv.length
    have hh : X.A.handled = none := I.ok.hd hc
    have hT : s.TypeIs (.ref e) "enumerate" := ⟨_, he, rfl⟩
    unfold pyNext
    refine wpAny_bind (wpAny_attempt (wpAny_callSpecial?_slot (name := Str.ofString "__next__") hT F.slot_enumerate_next
      (wpAny_call_entry F.slot_enumerate_next hT F.entry_enumerate_next ?_ (F.args_enumerate_next_1 _))))
    show wpAny _ _ (field (.ref e) 2 >>= _) _ _ _
    refine wpAny_bind (wpAny_field he rfl (x := .ref it) rfl ?_)
    refine wpAny_bind (wpAny_nextOf_tuple_end (by simp [hh]) hit p (by simp; omega) fun h' x he' hx' => ?_)
    obtain ⟨o, ho, hc'⟩ := hx'
    refine wpAny_bind (wpAny_isInstance (T := "StopIteration") (b := true) ⟨o, ho, hc'⟩ isSubtype_stop ?_)
    exact wpAny_pure ⟨rfl, I.turned (t' := s.toks) (fun b o hb q => he' b o hb q) f0 f1 f3 f4 f5⟩
  self := fun A i s Q E st h => let ⟨⟨_, he⟩, _⟩ := st; wpAny_pyIter_enum he h
def iEnumT (K : PySem.W.Frag) (ta : TA) : TI := fun σ H R => ta σ H fun vs H1 => ∃ a xs, vs = [.ref a] ∧ SqT K H1 a xs ∧ R (IteT K a) H1
theorem pi_enumT {X : Cx} {e : Expr} {ta : TA} {p pos tpos : Pos} {elts : List Expr} {kk : Nat} (hg : Gl X "enumerate") (hm : X.mg "enumerate" = none) (ha : PA X [e] ta) (hs : starEach [e] X.env = [(false, eval e X.env)] := by rfl) :
    PI X (.Tuple elts kk tpos) (.Call (.Name "enumerate" p) [e] [] pos) (iEnumT X.K ta) := by
  refine ⟨fun pins s σ H R I h => ?_⟩
  refine Call_ (ld_blt I hg hm boot_enumerate (PyProof.Rows.callWith_type1 (thn (ha.run pos pins s σ H _ I h) fun us s1 ⟨vs, H1, I1, r1, q1⟩ => ?_) hs rfl))
  obtain ⟨a, xs, ex, hq, q⟩ := q1
  subst ex
  cases r1 with
  | cons r rr =>
    cases rr
    cases r
    obtain ⟨its, rv, p', hz⟩ := I1.tuple hq
    have hal : a < s1.heap.objs.size := by obtain ⟨o, ho, _⟩ := id p'; exact Heap.lt_size ho
    refine call_enumT (show s1.heap.IsTuple a its.toArray from p') fun h' he hit hsz hk => wpAny_pyIter_enum he ?_
    have I2 : Inv X pins σ H1 { s1 with heap := h' } := I1.kept (t' := s1.toks) hk
    refine ⟨s1.heap.objs.size + 1, [s1.heap.objs.size + 1, s1.heap.objs.size], _, _, H1, rfl, I2, turn_enumT a (s1.heap.objs.size + 1) s1.heap.objs.size (Nat.ne_of_lt hal) (Nat.ne_of_lt (Nat.lt_succ_of_lt hal)), ⟨⟨.none, he⟩, hit, Nat.succ_ne_self _⟩, fun b hb => ?_, q⟩
    have e' : b = s1.heap.objs.size + 1 ∨ b = s1.heap.objs.size := by simpa using hb
    have hle : s1.heap.objs.size ≤ b := by
      rcases e' with z | z
      · rw [z]; exact Nat.le_add_right _ _
      · rw [z]; exact Nat.le_refl _
    exact I1.fpOk hle (I1.hok.fresh hle)
/-! ### zip of a list and a tuple -/
abbrev zmH1 (h : Heap) (l1 : Addr) : Heap := h.push { cls := .type "list_iterator", data := .fields #[.ref l1, .int 0 0] }
abbrev zmH2 (h : Heap) (l1 l2 : Addr) : Heap := (zmH1 h l1).push { cls := .type "tuple_iterator", data := .fields #[.ref l2, .int 0 0] }
abbrev zmH3 (h : Heap) (l1 l2 : Addr) : Heap := (zmH2 h l1 l2).push { cls := .type "tuple", data := .seq #[.ref h.objs.size, .ref (zmH1 h l1).objs.size] }
abbrev zmH4 (h : Heap) (l1 l2 : Addr) : Heap := (zmH3 h l1 l2).push { cls := .type "tuple", data := .seq #[.none, .none] }
abbrev zmH5 (h : Heap) (l1 l2 : Addr) : Heap := (zmH4 h l1 l2).push { cls := .type "zip", data := .fields #[.none, .bool false, .bool false, .ref (zmH2 h l1 l2).objs.size, .ref (zmH3 h l1 l2).objs.size] }
theorem meets_zm_new (l1 l2 : Addr) (xs ys : Array Value) :
    Meets (Builtin.«zip.__new__» ⟨[.type "zip", .ref l1, .ref l2], []⟩) (fun _ R s => s.heap.IsList l1 xs ∧ s.heap.IsTuple l2 ys ∧
      R (.ok (.ret (.ref (zmH4 s.heap l1 l2).objs.size))) { s with heap := zmH5 s.heap l1 l2 }) :=
  .of_wp fun prog w A R s h => by
    obtain ⟨hp, g, d, tk, os⟩ := s; obtain ⟨hl1, hl2, h⟩ := h
    have hsub := sub_zip
    have hL1 : Heap.IsList (Shared.heap ⟨hp, g, d, tk, os⟩) l1 xs := hl1
    have hL2 : Heap.IsTuple (Shared.heap ⟨hp.push { cls := .type "list_iterator", data := .fields #[.ref l1, .int 0 0] }, g, d, tk, os⟩) l2 ys := Heap.IsTuple.push hl2 _
    wp_walk using wpAny_pyIter_list hL1, wpAny_pyIter_tuple hL2
    exact ⟨_, rfl, h⟩
theorem call_zm {prog : Program} {w : World} {A : Around} {E : Value → Shared → Prop} {s : Shared} {l1 l2 : Addr} {xs ys : Array Value} {Q : Value → Shared → Prop} (hl1 : s.heap.IsList l1 xs) (hl2 : s.heap.IsTuple l2 ys)
    (h : ∀ h', IsZip h' (s.heap.objs.size + 4) (s.heap.objs.size + 2) (s.heap.objs.size + 3) .none → IsPair h' (s.heap.objs.size + 2) (.ref s.heap.objs.size) (.ref (s.heap.objs.size + 1)) →
      IsPair h' (s.heap.objs.size + 3) .none .none → h'.IsListIter s.heap.objs.size l1 0 → h'.IsTupleIter (s.heap.objs.size + 1) l2 0 → h'.objs.size = s.heap.objs.size + 5 →
      (∀ c o, s.heap.get? c = some o → h'.get? c = some o) → Q (.ref (s.heap.objs.size + 4)) { s with heap := h' }) :
    wpAny (model prog w) A (PySem.call (.type "zip") [.ref l1, .ref l2]) Q E s := by
  refine callType_new F.called_zip (by decide) (F.typeCall_zip_2 _ _) (F.newCall_zip_2 _ _) (fun obj => F.args_object_init_3 obj _ _) F.entry_zip_new
    (meets_zm_new l1 l2 xs ys) ⟨hl1, hl2, ?_⟩
  have z1 : (zmH1 s.heap l1).objs.size = s.heap.objs.size + 1 := Heap.size_push ..
  have z2 : (zmH2 s.heap l1 l2).objs.size = s.heap.objs.size + 2 := by rw [Heap.size_push, z1]
  have z3 : (zmH3 s.heap l1 l2).objs.size = s.heap.objs.size + 3 := by rw [Heap.size_push, z2]
  have z4 : (zmH4 s.heap l1 l2).objs.size = s.heap.objs.size + 4 := by rw [Heap.size_push, z3]
  have z5 : (zmH5 s.heap l1 l2).objs.size = s.heap.objs.size + 5 := by rw [Heap.size_push, z4]
  have g5 : (zmH5 s.heap l1 l2).get? (zmH4 s.heap l1 l2).objs.size = some _ := Heap.get?_push_size _ rfl
  have g4 : (zmH5 s.heap l1 l2).get? (zmH3 s.heap l1 l2).objs.size = some _ := Heap.get?_push_of_some _ (Heap.get?_push_size _ rfl)
  have g3 : (zmH5 s.heap l1 l2).get? (zmH2 s.heap l1 l2).objs.size = some _ := Heap.get?_push_of_some _ (Heap.get?_push_of_some _ (Heap.get?_push_size _ rfl))
  have g2 : (zmH5 s.heap l1 l2).get? (zmH1 s.heap l1).objs.size = some _ := Heap.get?_push_of_some _ (Heap.get?_push_of_some _ (Heap.get?_push_of_some _ (Heap.get?_push_size _ rfl)))
  have g1 : (zmH5 s.heap l1 l2).get? s.heap.objs.size = some _ := Heap.get?_push_of_some _ (Heap.get?_push_of_some _ (Heap.get?_push_of_some _ (Heap.get?_push_of_some _ (Heap.get?_push_size _ rfl))))
  show _ ∧ _
  rw [z2, z3, z4] at g5
  rw [z1, z2] at g3
  rw [z3] at g4
  rw [z1] at g2
  rw [z4]
  exact ⟨⟨_, g5, rfl⟩, h _ g5 g3 g4 ⟨_, g1, rfl, rfl⟩ ⟨_, g2, rfl, rfl⟩ z5 fun c o x =>
    Heap.get?_push_of_some _ (Heap.get?_push_of_some _ (Heap.get?_push_of_some _ (Heap.get?_push_of_some _ (Heap.get?_push_of_some _ x))))⟩
/-- the list at a, the tuple at b, the items in new pairs -/
def ItzM (K : PySem.W.Frag) (a b : Addr) : It :=
  ⟨fun i H => ∃ (xs ys : List V) (x y : V), SqL K H a xs ∧ SqT K H b ys ∧ xs[i]? = some x ∧ ys[i]? = some y,
    fun i H v H' => ∃ T x y, v = .ref T ∧ H T = none ∧ H' = upd H T (.tup [x, y]) ∧ (∀ xs, SqL K H a xs → xs[i]? = some x) ∧ ∀ ys, SqT K H b ys → ys[i]? = some y,
    fun i H => ∃ xs ys : List V, SqL K H a xs ∧ SqT K H b ys ∧ (xs.length = i ∨ ys.length = i) ∧ i ≤ xs.length ∧ i ≤ ys.length⟩
theorem turn_zipM {P : Program} {w : World} {K : PySem.W.Frag} {elts : List Expr} {kk : Nat} {tpos : Pos} {a b z TI TO i1 i2 : Addr} (S : ZipSep2 z TI TO i1 i2 [i1, a] [i2, b]) (ha : a ≠ i1) (hb : b ≠ i2) :
    Turn P w K (.Tuple elts kk tpos) (ItzM K a b) [z, TI, TO, i1, i2] z (fun i h => IsZip h z TI TO .none ∧ IsPair h TI (.ref i1) (.ref i2) ∧ (∃ x y, IsPair h TO x y) ∧ h.IsListIter i1 a i ∧ h.IsTupleIter i2 b i) where
  mem := by simp
  obj := fun i h st c hc => by
    obtain ⟨hz, hTI, ⟨x, y, hTO⟩, ⟨o1, e1, _, d1⟩, ⟨o2, e2, _, d2⟩⟩ := st
    have e' : c = z ∨ c = TI ∨ c = TO ∨ c = i1 ∨ c = i2 := by simpa using hc
    rcases e' with q | q | q | q | q
    · rw [q]; exact ⟨_, hz, fun v q => nomatch q⟩
    · rw [q]; exact ⟨_, hTI, fun v q => nomatch q⟩
    · rw [q]; exact ⟨_, hTO, fun v q => nomatch q⟩
    · rw [q]; exact ⟨o1, e1, fun v q => by rw [d1] at q; cases q⟩
    · rw [q]; exact ⟨o2, e2, fun v q => by rw [d2] at q; cases q⟩
  keep := fun i h h' st k => by
    obtain ⟨hz, hTI, ⟨x, y, hTO⟩, h1, h2⟩ := st
    exact ⟨k z (by simp) _ hz, k TI (by simp) _ hTI, ⟨x, y, k TO (by simp) _ hTO⟩, h1.at fun o q => k i1 (by simp) o q, h2.at fun o q => k i2 (by simp) o q⟩
  item := by
    intro X hP hw hK hc i pins s σ H E I hf st hg
    subst hP hw hK
    obtain ⟨hz, hTI, ⟨x0, y0, hTO⟩, h1, h2⟩ := st
    obtain ⟨xs, ys, x, y, hqx, hqy, hx, hy⟩ := hg
    obtain ⟨its, rv, p, _⟩ := I.list hqx
    obtain ⟨its2, rv2, p2, _⟩ := I.tuple hqy
    obtain ⟨u, hu, ru⟩ := rv.get hx
    obtain ⟨u2, hu2, ru2⟩ := rv2.get hy
    have hh : X.A.in1.handled = none := by simp [I.ok.hd hc]
    have D1 := Draws.list (prog := X.prog) (w := X.w) (A := X.A.in1) hh i1 a ha its.toArray
    have D2 := Draws.tuple (prog := X.prog) (w := X.w) (A := X.A.in1) hh i2 b hb its2.toArray
    have hzl : z < s.heap.objs.size := Heap.lt_size hz
    have hl1 : i < its.toArray.size := by rw [List.size_toArray]; exact (List.getElem?_eq_some_iff.mp hu).1
    have hl2 : i < its2.toArray.size := by rw [List.size_toArray]; exact (List.getElem?_eq_some_iff.mp hu2).1
    refine wpAny_pyNext_zipD2_item S D1 D2 hz hTI hTO ⟨h1, p.isList⟩ ⟨h2, p2⟩ hl1 hl2 fun x1 x2 h' tk P1 P2 z' TO' s1 s2 hT hsz hk => ?_
    have e1 : x1 = u := by
      have h1 : its.toArray[i]? = some u := by simpa using hu
      exact Option.some.inj (P1.symm.trans h1)
    have e2 : x2 = u2 := by
      have h1 : its2.toArray[i]? = some u2 := by simpa using hu2
      exact Option.some.inj (P2.symm.trans h1)
    subst e1; subst e2
    refine ⟨_, rfl, wpAny_letOwnedTupleGo_zip (s := { s with heap := h', toks := tk }) z' fun h'' z'' sb => ?_⟩
    have hT2 : h''.get? s.heap.objs.size = some { cls := .type "tuple", data := .seq #[x1, x2] } := (sb.2 _ (Nat.ne_of_gt hzl)).trans hT
    have new : ObjOk X.prog X.w (upd H s.heap.objs.size (.tup [x, y])) h'' s.heap.objs.size (.tup [x, y]) :=
      ⟨by show 2 ≤ sizeLine; decide, [x1, x2], .cons ru (.cons ru2 .nil), ⟨_, hT2, rfl, _, rfl⟩⟩
    have I1 : Inv X pins σ (upd H s.heap.objs.size (.tup [x, y])) { s with heap := h'', toks := tk } :=
      I.turnedNew (t' := tk) (ch := [z, TI, TO, i1, i2]) (fun c o hb q => (sb.2 c (fun q' => hb (by simp [q']))).trans (hk c o (fun q' => hb (by simp [q'])) (fun q' => hb (by simp [q'])) (fun q' => hb (by simp [q'])) (fun q' => hb (by simp [q'])) q)) hf (Nat.le_refl _) new
    refine ⟨.ref s.heap.objs.size, _, I1, rfl, ⟨_, x, y, rfl, I.hok.fresh (Nat.le_refl _), rfl, fun l hl => by rw [I.list_inj hl hqx]; exact hx, fun l hl => by rw [I.tuple_inj hl hqy]; exact hy⟩, ⟨z'', ?_, ⟨x1, x2, ?_⟩, ?_, ?_⟩, fun c hcm => ?_⟩
    · exact (sb.2 _ S.TIz).trans (hk _ _ S.TIz S.TITO S.TIi1 S.TIi2 hTI)
    · exact (sb.2 _ S.TOz).trans TO'
    · exact s1.1.at fun o q => (sb.2 _ (Ne.symm S.zi1)).trans q
    · exact s2.1.at fun o q => (sb.2 _ (Ne.symm S.zi2)).trans q
    · have hlt : c < s.heap.objs.size := by
        have e' : c = z ∨ c = TI ∨ c = TO ∨ c = i1 ∨ c = i2 := by simpa using hcm
        rcases e' with q | q | q | q | q
        · rw [q]; exact hzl
        · rw [q]; exact Heap.lt_size hTI
        · rw [q]; exact Heap.lt_size hTO
        · rw [q]; obtain ⟨_, e1, _⟩ := h1; exact Heap.lt_size e1
        · rw [q]; obtain ⟨_, e2, _⟩ := h2; exact Heap.lt_size e2
      rw [upd_ne (Nat.ne_of_lt hlt)]
      exact (hf c hcm).1
  done := by
    intro X hP hw hK hc i pins s σ H E I hf st hg
    subst hP hw hK
    obtain ⟨hz, hTI, ⟨x0, y0, hTO⟩, h1, h2⟩ := st
    obtain ⟨xs, ys, hqx, hqy, hend, hle1, hle2⟩ := hg
    obtain ⟨its, rv, p, _⟩ := I.list hqx
    obtain ⟨its2, rv2, p2, _⟩ := I.tuple hqy
    have l1 := rv.length
    have l2 := rv2.length
    have hh : X.A.in1.handled = none := by simp [I.ok.hd hc]
    have D1 := Draws.list (prog := X.prog) (w := X.w) (A := X.A.in1) hh i1 a ha its.toArray
    have D2 := Draws.tuple (prog := X.prog) (w := X.w) (A := X.A.in1) hh i2 b hb its2.toArray
    have e1 : its.toArray.size = xs.length := by rw [List.size_toArray]; exact l1.symm
    have e2 : its2.toArray.size = ys.length := by rw [List.size_toArray]; exact l2.symm
    refine wpAny_pyNext_zipD2_end S D1 D2 hz hTI hTO ⟨h1, p.isList⟩ ⟨h2, p2⟩ (by rw [e1]; exact hle1) (by rw [e2]; exact hle2) (by rw [e1, e2]; exact hend.imp Eq.symm Eq.symm) fun h' tk hk => ⟨rfl, I.turnedL (t' := tk) (ch := [z, TI, TO, i1, i2]) (fun c o hb q =>
      hk c o (fun q' => hb (by simp [q'])) (fun q' => hb (by simp [q'])) (fun q' => hb (by simp [q'])) (fun q' => hb (by simp [q'])) q) hf⟩
  self := fun A i s Q E st h => wpAny_pyIter_zip st.1 h
theorem notin2 {x a b : Nat} (h1 : x ≠ a) (h2 : x ≠ b) : x ∉ [a, b] := by simp [h1, h2]
theorem sep_nat (n a b : Nat) (h1 : a < n) (h2 : b < n) : ZipSep2 (n + 4) (n + 2) (n + 3) n (n + 1) [n, a] [n + 1, b] where
  TIz := (by omega : (n + 2 : Nat) ≠ n + 4)
  TOz := (by omega : (n + 3 : Nat) ≠ n + 4)
  TITO := (by omega : (n + 2 : Nat) ≠ n + 3)
  TIi1 := (by omega : (n + 2 : Nat) ≠ n)
  mem1 := List.mem_cons_self
  zf1 := notin2 (by omega) (by omega)
  Tf1 := notin2 (by omega) (by omega)
  TIi2 := (by omega : (n + 2 : Nat) ≠ n + 1)
  mem2 := List.mem_cons_self
  zf2 := notin2 (by omega) (by omega)
  Tf2 := notin2 (by omega) (by omega)
  sep1_2 := notin2 (by omega) (by omega)
  sep2_1 := notin2 (by omega) (by omega)
def iZipM (K : PySem.W.Frag) (ta : TA) : TI := fun σ H R => ta σ H fun vs H1 => ∃ a b xs ys, vs = [.ref a, .ref b] ∧ SqL K H1 a xs ∧ SqT K H1 b ys ∧ R (ItzM K a b) H1
theorem pi_zipM {X : Cx} {e e2 : Expr} {ta : TA} {p pos tpos : Pos} {elts : List Expr} {kk : Nat} (hg : Gl X "zip") (hm : X.mg "zip" = none) (ha : PA X [e, e2] ta)
    (hs : starEach [e, e2] X.env = (false, eval e X.env) :: starEach [e2] X.env := by rfl) (hpl : (backTo pos (starEach [e2] X.env)).any (·.1) = false := by rfl) :
    PI X (.Tuple elts kk tpos) (.Call (.Name "zip" p) [e, e2] [] pos) (iZipM X.K ta) := by
  refine ⟨fun pins s σ H R I h => ?_⟩
  refine Call_ (ld_blt I hg hm PyProof.Rows.boot_zip (PyProof.Rows.callWith_type1 (thn (ha.run pos pins s σ H _ I h) fun us s1 ⟨vs, H1, I1, r1, q1⟩ => ?_) hs hpl))
  obtain ⟨a, b, xs, ys, ex, hqx, hqy, q⟩ := q1
  subst ex
  cases r1 with
  | cons r rr =>
    cases rr with
    | cons r' rr =>
      cases rr
      cases r
      cases r'
      have fresh5 : ∀ c, c ∈ [s1.heap.objs.size + 4, s1.heap.objs.size + 2, s1.heap.objs.size + 3, s1.heap.objs.size, s1.heap.objs.size + 1] → FpOk X pins H1 c := fun c hcm => by
        have e' : c = s1.heap.objs.size + 4 ∨ c = s1.heap.objs.size + 2 ∨ c = s1.heap.objs.size + 3 ∨ c = s1.heap.objs.size ∨ c = s1.heap.objs.size + 1 := by simpa using hcm
        have hle : s1.heap.objs.size ≤ c := by
          rcases e' with z | z | z | z | z
          · rw [z]; exact Nat.le_add_right _ _
          · rw [z]; exact Nat.le_add_right _ _
          · rw [z]; exact Nat.le_add_right _ _
          · rw [z]; exact Nat.le_refl _
          · rw [z]; exact Nat.le_add_right _ _
        exact I1.fpOk hle (I1.hok.fresh hle)
      obtain ⟨its, rv, p1, _⟩ := I1.list hqx
      obtain ⟨its2, rv2, p2, _⟩ := I1.tuple hqy
      have hal : a < s1.heap.objs.size := p1.lt
      have hbl : b < s1.heap.objs.size := by obtain ⟨o, ho, _⟩ := id p2; exact Heap.lt_size ho
      generalize hn : s1.heap.objs.size = n at *
      have S := sep_nat n a b hal hbl
      refine call_zm p1.isList (show s1.heap.IsTuple b its2.toArray from p2) fun h' hz hTI hTO h1 h2 hsz hk => wpAny_pyIter_zip hz ?_
      rw [hn] at hz hTI hTO h1 h2 ⊢
      have I2 : Inv X pins σ H1 { s1 with heap := h' } := I1.kept (t' := s1.toks) hk
      exact ⟨n + 4, [n + 4, n + 2, n + 3, n, n + 1], _, _, H1, rfl, I2, turn_zipM S (Nat.ne_of_lt hal) (Nat.ne_of_lt (Nat.lt_succ_of_lt hbl)), ⟨hz, hTI, ⟨_, _, hTO⟩, h1, h2⟩, fresh5, q⟩
/-! ### what they go through -/
section
variable {X : Cx} {cs : Nat → Option Addr} {e e1 e2 : Expr} {es : List Expr} {f f1 f2 : Env → Sto → Option (Val × Sto)} {g : Env → Sto → Option (List Val × Sto)} {pos : Pos}
theorem enumL_get : ∀ {ds : List D} {n i : Nat} {d : D}, (enumL n ds)[i]? = some d → ∃ x, ds[i]? = some x ∧ d = .tup [.int ((n + i : Nat) : Int), x]
  | [], n, i, d, h => by simp [enumL] at h
  | x :: ds, n, 0, d, h => by
    simp only [enumL, List.getElem?_cons_zero, Option.some.injEq] at h
    exact ⟨x, rfl, h.symm⟩
  | x :: ds, n, i + 1, d, h => by
    simp only [enumL, List.getElem?_cons_succ] at h
    obtain ⟨y, h1, h2⟩ := enumL_get h
    exact ⟨y, by simpa using h1, by rw [h2]; congr 3; omega⟩
theorem enumL_len : ∀ {ds : List D} {n : Nat}, (enumL n ds).length = ds.length
  | [], n => rfl
  | x :: ds, n => by simp only [enumL, List.length_cons, enumL_len]
theorem zipL_get : ∀ {xs ys : List D} {i : Nat} {d : D}, (zipL xs ys)[i]? = some d → ∃ x y, xs[i]? = some x ∧ ys[i]? = some y ∧ d = .tup [x, y]
  | [], _, i, d, h => by simp [zipL] at h
  | _ :: _, [], i, d, h => by simp [zipL] at h
  | x :: xs, y :: ys, 0, d, h => by
    simp only [zipL, List.getElem?_cons_zero, Option.some.injEq] at h
    exact ⟨x, y, rfl, rfl, h.symm⟩
  | x :: xs, y :: ys, i + 1, d, h => by
    simp only [zipL, List.getElem?_cons_succ] at h
    obtain ⟨a, b, h1, h2, h3⟩ := zipL_get h
    exact ⟨a, b, by simpa using h1, by simpa using h2, h3⟩
theorem zipL_len : ∀ {xs ys : List D}, (zipL xs ys).length = min xs.length ys.length
  | [], _ => by simp [zipL]
  | _ :: _, [] => by simp [zipL]
  | x :: xs, y :: ys => by simp only [zipL, List.length_cons, zipL_len]; omega
theorem pair_yld {K : PySem.W.Frag} {F2 B H2 : Hp} {as2 : List Addr} {st2 : Sto} (r : RSt K cs F2 B as2 st2 H2) {T : Addr} (hT : H2 T = none) {d1 d2 : D} {u1 u2 : V} (q1 : Den K F2 d1 u1) (q2 : Den K F2 d2 u2) :
    ∃ F3, RSt K cs F3 B as2 st2 (upd H2 T (.tup [u1, u2])) ∧ Ext F2 as2 H2 F3 as2 (upd H2 T (.tup [u1, u2])) ∧ Den K F3 (.tup [d1, d2]) (.ref T) :=
  let ⟨a, x⟩ := r.frozen (o := .tup [u1, u2]) hT
  ⟨_, a, x, Den.tup_iff.mpr ⟨T, _, rfl, upd_same, Dens.cons.mpr ⟨_, _, rfl, Den.mono x.ff _ _ q1, Dens.one (Den.mono x.ff _ _ q2)⟩⟩⟩
theorem yields_e {F B : Hp} {as : List Addr} {G : Sto → Prop} {p : Addr} {us : List V} {ds : List D} (hl : ∀ {F2 as2 st2 H2}, (∀ a o, F a = some o → F2 a = some o) → as <+: as2 → G st2 → RSt X.K cs F2 B as2 st2 H2 → SqL X.K H2 p us) (hd : Dens X.K F ds us) : Yields X.K cs F B as G (Ite X.K p) (enumL 0 ds) where
  stop := fun i hF hp' hG r h => ⟨us, hl hF hp' hG r, by rw [hd.length]; rw [enumL_len] at h; exact Nat.le_of_eq h⟩
  go := fun i d hF hp' hG r h => let ⟨x, hx, _⟩ := enumL_get h; let ⟨u, e, _⟩ := hd.get hx; ⟨us, u, hl hF hp' hG r, e⟩
  yld := fun i d x H3 hF hp' hG r h y => by
    obtain ⟨T, x', rfl, hT, rfl, y2⟩ := y
    obtain ⟨d0, hx, rfl⟩ := enumL_get h
    obtain ⟨u, e, q⟩ := hd.get hx
    have := y2 us (hl hF hp' hG r)
    rw [e] at this; cases this
    rw [Nat.zero_add]
    exact pair_yld r hT (Den.int_iff.mpr rfl) (Den.mono hF _ _ q)
theorem yields_eT {F B : Hp} {as : List Addr} {G : Sto → Prop} {p : Addr} {us : List V} {ds : List D} (hl : ∀ {F2 as2 st2 H2}, (∀ a o, F a = some o → F2 a = some o) → as <+: as2 → G st2 → RSt X.K cs F2 B as2 st2 H2 → SqT X.K H2 p us) (hd : Dens X.K F ds us) : Yields X.K cs F B as G (IteT X.K p) (enumL 0 ds) where
  stop := fun i hF hp' hG r h => ⟨us, hl hF hp' hG r, by rw [hd.length]; rw [enumL_len] at h; exact Nat.le_of_eq h⟩
  go := fun i d hF hp' hG r h => let ⟨x, hx, _⟩ := enumL_get h; let ⟨u, e, _⟩ := hd.get hx; ⟨us, u, hl hF hp' hG r, e⟩
  yld := fun i d x H3 hF hp' hG r h y => by
    obtain ⟨T, x', rfl, hT, rfl, y2⟩ := y
    obtain ⟨d0, hx, rfl⟩ := enumL_get h
    obtain ⟨u, e, q⟩ := hd.get hx
    have := y2 us (hl hF hp' hG r)
    rw [e] at this; cases this
    rw [Nat.zero_add]
    exact pair_yld r hT (Den.int_iff.mpr rfl) (Den.mono hF _ _ q)
theorem yields_z {F B : Hp} {as : List Addr} {G : Sto → Prop} {p q : Addr} {us vs : List V} {ds es : List D} (hl : ∀ {F2 as2 st2 H2}, (∀ a o, F a = some o → F2 a = some o) → as <+: as2 → G st2 → RSt X.K cs F2 B as2 st2 H2 → SqL X.K H2 p us) (hd : Dens X.K F ds us)
    (hk : ∀ {F2 as2 st2 H2}, (∀ a o, F a = some o → F2 a = some o) → as <+: as2 → G st2 → RSt X.K cs F2 B as2 st2 H2 → SqL X.K H2 q vs) (he : Dens X.K F es vs) : Yields X.K cs F B as G (Itz X.K p q) (zipL ds es) where
  stop := fun i hF hp' hG r h => ⟨us, vs, hl hF hp' hG r, hk hF hp' hG r, by rw [hd.length, he.length]; rw [zipL_len] at h; omega⟩
  go := fun i d hF hp' hG r h => let ⟨x, y, hx, hy, _⟩ := zipL_get h; let ⟨u, e1, _⟩ := hd.get hx; let ⟨v, e2, _⟩ := he.get hy; ⟨us, vs, u, v, hl hF hp' hG r, hk hF hp' hG r, e1, e2⟩
  yld := fun i d x H3 hF hp' hG r h y => by
    obtain ⟨T, x', y', rfl, hT, rfl, y2, y3⟩ := y
    obtain ⟨d1, d2, hx, hy, rfl⟩ := zipL_get h
    obtain ⟨u, e1, q1⟩ := hd.get hx
    obtain ⟨v, e2, q2⟩ := he.get hy
    have := y2 us (hl hF hp' hG r)
    rw [e1] at this; cases this
    have := y3 vs (hk hF hp' hG r)
    rw [e2] at this; cases this
    exact pair_yld r hT (Den.mono hF _ _ q1) (Den.mono hF _ _ q2)
theorem yields_zT {F B : Hp} {as : List Addr} {G : Sto → Prop} {p q : Addr} {us vs : List V} {ds es : List D} (hl : ∀ {F2 as2 st2 H2}, (∀ a o, F a = some o → F2 a = some o) → as <+: as2 → G st2 → RSt X.K cs F2 B as2 st2 H2 → SqT X.K H2 p us) (hd : Dens X.K F ds us)
    (hk : ∀ {F2 as2 st2 H2}, (∀ a o, F a = some o → F2 a = some o) → as <+: as2 → G st2 → RSt X.K cs F2 B as2 st2 H2 → SqT X.K H2 q vs) (he : Dens X.K F es vs) : Yields X.K cs F B as G (RZ.ItzT X.K p q) (zipL ds es) where
  stop := fun i hF hp' hG r h => ⟨us, vs, hl hF hp' hG r, hk hF hp' hG r, by rw [hd.length, he.length]; rw [zipL_len] at h; omega⟩
  go := fun i d hF hp' hG r h => let ⟨x, y, hx, hy, _⟩ := zipL_get h; let ⟨u, e1, _⟩ := hd.get hx; let ⟨v, e2, _⟩ := he.get hy; ⟨us, vs, u, v, hl hF hp' hG r, hk hF hp' hG r, e1, e2⟩
  yld := fun i d x H3 hF hp' hG r h y => by
    obtain ⟨T, x', y', rfl, hT, rfl, y2, y3⟩ := y
    obtain ⟨d1, d2, hx, hy, rfl⟩ := zipL_get h
    obtain ⟨u, e1, q1⟩ := hd.get hx
    obtain ⟨v, e2, q2⟩ := he.get hy
    have := y2 us (hl hF hp' hG r)
    rw [e1] at this; cases this
    have := y3 vs (hk hF hp' hG r)
    rw [e2] at this; cases this
    exact pair_yld r hT (Den.mono hF _ _ q1) (Den.mono hF _ _ q2)
theorem yields_zM {F B : Hp} {as : List Addr} {G : Sto → Prop} {p q : Addr} {us vs : List V} {ds es : List D} (hl : ∀ {F2 as2 st2 H2}, (∀ a o, F a = some o → F2 a = some o) → as <+: as2 → G st2 → RSt X.K cs F2 B as2 st2 H2 → SqL X.K H2 p us) (hd : Dens X.K F ds us)
    (hk : ∀ {F2 as2 st2 H2}, (∀ a o, F a = some o → F2 a = some o) → as <+: as2 → G st2 → RSt X.K cs F2 B as2 st2 H2 → SqT X.K H2 q vs) (he : Dens X.K F es vs) : Yields X.K cs F B as G (ItzM X.K p q) (zipL ds es) where
  stop := fun i hF hp' hG r h => ⟨us, vs, hl hF hp' hG r, hk hF hp' hG r, by rw [hd.length, he.length]; rw [zipL_len] at h; omega⟩
  go := fun i d hF hp' hG r h => let ⟨x, y, hx, hy, _⟩ := zipL_get h; let ⟨u, e1, _⟩ := hd.get hx; let ⟨v, e2, _⟩ := he.get hy; ⟨us, vs, u, v, hl hF hp' hG r, hk hF hp' hG r, e1, e2⟩
  yld := fun i d x H3 hF hp' hG r h y => by
    obtain ⟨T, x', y', rfl, hT, rfl, y2, y3⟩ := y
    obtain ⟨d1, d2, hx, hy, rfl⟩ := zipL_get h
    obtain ⟨u, e1, q1⟩ := hd.get hx
    obtain ⟨v, e2, q2⟩ := he.get hy
    have := y2 us (hl hF hp' hG r)
    rw [e1] at this; cases this
    have := y3 vs (hk hF hp' hG r)
    rw [e2] at this; cases this
    exact pair_yld r hT (Den.mono hF _ _ q1) (Den.mono hF _ _ q2)
/-- a list that is walked: where it lies -/
theorem seqL_of {v : Val} {ds : List D} (h : itLl v = some ds) {F B H : Hp} {as : List Addr} {st : Sto} {u : V} (q : VOk X.K F B as v u) : ∃ p us, u = .ref p ∧ (∀ {F2 : Hp} {as2 : List Addr} {st2 : Sto} {H2 : Hp}, (∀ a o, F a = some o → F2 a = some o) → RSt X.K cs F2 B as2 st2 H2 → SqL X.K H2 p us) ∧ Dens X.K F ds us := by
  unfold itLl at h
  split at h
  · cases h
    obtain ⟨p, us, rfl, hp, hq⟩ := Den.lst_iff.mp q
    exact ⟨p, us, rfl, fun hF r2 => .of (r2.fh _ _ (hF _ _ hp)), hq⟩
  · cases h
    obtain ⟨p, rfl, hp⟩ := Den.scr_iff.mp q
    exact ⟨p, _, rfl, fun hF r2 => sqL_mono r2.fh (sqL_mono hF hp), scrs _⟩
  · cases h
    obtain ⟨p, us, rfl, hp, hq⟩ := q
    exact ⟨p, us, rfl, fun hF r2 => .of (r2.bh _ _ hp), hq⟩
  · cases h
def fEnum (f : Env → Sto → Option (Val × Sto)) : Env → Sto → Option (List D × Sto) := fun env st => (f env st).bind fun r => (itQ r.1).map fun ds => (enumL 0 ds, r.2)
theorem s_enum {elts : List Expr} {kk : Nat} {tpos p : Pos} (hg : Gl X "enumerate") (hm : X.mg "enumerate" = none) (h : PE X e (tE X.K cs f)) (hs : nStar e = true) : PI X (.Tuple elts kk tpos) (.Call (.Name "enumerate" p) [e] [] pos) (tI X.K cs (fEnum f)) := by
  refine ⟨fun pins s σ H R I hw => ?_⟩
  obtain ⟨F, B, as, env, st, ds, st', r, ev, k⟩ := hw
  obtain ⟨⟨x, s1⟩, e1, ev1⟩ := obnd ev
  obtain ⟨ds', hd, ev2⟩ := omap ev1
  clear ev ev1
  cases ev2
  dsimp only at hd k
  unfold itQ at hd
  split at hd
  · cases hd
    refine (pi_enumT hg hm (s_cons h s_nil hs) (noStar hs)).held.run pins s σ H R I ⟨F, B, as, env, st, [_], s1, r, by dsimp only; rw [e1]; rfl, fun F' as' H' us r' x' v1 => ?_⟩
    obtain ⟨u, rfl, q⟩ := paired1 v1
    obtain ⟨p, us, rfl, hp, hq⟩ := Den.tup_iff.mp q
    exact ⟨p, us, rfl, .of (r'.fh _ _ hp), fun ⟨hh, ok⟩ => k F' as' H' _ r' x' (yields_eT (fun hF _ _ r2 => .of (r2.fh _ _ (hF _ _ hp))) hq) (by rw [enumL_len, line_eq, ← hq.length]; exact ok.tup_le (r'.fh _ _ hp))⟩
  · refine (pi_enum hg hm (s_cons h s_nil hs) (noStar hs)).held.run pins s σ H R I ⟨F, B, as, env, st, [_], s1, r, by dsimp only; rw [e1]; rfl, fun F' as' H' us r' x' v1 => ?_⟩
    obtain ⟨u, rfl, q⟩ := paired1 v1
    obtain ⟨p, us, rfl, hp, hq⟩ := seqL_of (H := H') (st := s1) hd q
    exact ⟨p, us, rfl, hp (fun _ _ h => h) r'.toRSt, fun ⟨hh, ok⟩ => k F' as' H' _ r' x' (yields_e (fun hF _ _ r2 => hp hF r2) hq) (by rw [enumL_len, line_eq, ← hq.length]; exact sqL_le (X := X) ok (hp (fun _ _ h => h) r'.toRSt))⟩
def fZip (f1 f2 : Env → Sto → Option (Val × Sto)) : Env → Sto → Option (List D × Sto) := fun env st => (f1 env st).bind fun r => (f2 env r.2).bind fun q => (itZ r.1 q.1).map fun ds => (ds, q.2)
theorem s_zip {elts : List Expr} {kk : Nat} {tpos p : Pos} (hg : Gl X "zip") (hm : X.mg "zip" = none) (h1 : PE X e1 (tE X.K cs f1)) (h2 : PE X e2 (tE X.K cs f2)) (hs1 : nStar e1 = true) (hs2 : nStar e2 = true) : PI X (.Tuple elts kk tpos) (.Call (.Name "zip" p) [e1, e2] [] pos) (tI X.K cs (fZip f1 f2)) := by
  refine ⟨fun pins s σ H R I hw => ?_⟩
  obtain ⟨F, B, as, env, st, ds, st', r, ev, k⟩ := hw
  obtain ⟨⟨x, s1⟩, ex, ev1⟩ := obnd ev
  obtain ⟨⟨y, s2⟩, ey, ev2⟩ := obnd ev1
  obtain ⟨ds', hd, ev3⟩ := omap ev2
  clear ev ev1 ev2
  cases ev3
  dsimp only at hd k ey
  have hst : starEach [e1, e2] X.env = (false, eval e1 X.env) :: starEach [e2] X.env := by rw [noStar hs1]
  have hpl : (backTo pos (starEach [e2] X.env)).any (·.1) = false := by rw [noStar hs2]; rfl
  have hpa := s_cons h1 (s_cons h2 s_nil hs2) hs1
  unfold itZ at hd
  split at hd
  · cases hd
    refine (RZ.pi_zipA hg hm hpa hst hpl).held.run pins s σ H R I ⟨F, B, as, env, st, [_, _], s2, r, by dsimp only; rw [ex]; dsimp only [Option.bind_some]; rw [ey]; rfl, fun F' as' H' us r' x' v1 => ?_⟩
    obtain ⟨u, w, rfl, q, q'⟩ := paired2 v1
    obtain ⟨p, us, rfl, hp, hq⟩ := Den.tup_iff.mp q
    obtain ⟨p', vs, rfl, hp', hq'⟩ := Den.tup_iff.mp q'
    refine ⟨p, p', us, vs, rfl, .inr ⟨.of (r'.fh _ _ hp), .of (r'.fh _ _ hp'), fun ⟨hh, ok⟩ => k F' as' H' _ r' x' (yields_zT (fun hF _ _ r2 => .of (r2.fh _ _ (hF _ _ hp))) hq (fun hF _ _ r2 => .of (r2.fh _ _ (hF _ _ hp'))) hq') ?_⟩⟩
    have := ok.tup_le (r'.fh _ _ hp)
    rw [zipL_len, line_eq]
    rw [hq.length] at this
    omega
  · cases hd
  · rename_i a ys hn
    obtain ⟨xs, hx, e⟩ := omap hd
    subst e
    refine (pi_zipM hg hm hpa hst hpl).held.run pins s σ H R I ⟨F, B, as, env, st, [_, _], s2, r, by dsimp only; rw [ex]; dsimp only [Option.bind_some]; rw [ey]; rfl, fun F' as' H' us r' x' v1 => ?_⟩
    obtain ⟨u, w, rfl, q, q'⟩ := paired2 v1
    obtain ⟨p, us, rfl, hp, hq⟩ := seqL_of (H := H') (st := s1) hx q
    obtain ⟨p', vs, rfl, hp', hq'⟩ := Den.tup_iff.mp q'
    refine ⟨p, p', us, vs, rfl, hp (fun _ _ h => h) r'.toRSt, .of (r'.fh _ _ hp'), fun ⟨hh, ok⟩ => k F' as' H' _ r' x' (yields_zM (fun hF _ _ r2 => hp hF r2) hq (fun hF _ _ r2 => .of (r2.fh _ _ (hF _ _ hp'))) hq') ?_⟩
    have := ok.tup_le (r'.fh _ _ hp')
    rw [zipL_len, line_eq]
    rw [hq'.length] at this
    omega
  · obtain ⟨xs, hx, hd⟩ := obnd hd
    obtain ⟨ys, hy, e⟩ := omap hd
    subst e
    refine (RZ.pi_zipA hg hm hpa hst hpl).held.run pins s σ H R I ⟨F, B, as, env, st, [_, _], s2, r, by dsimp only; rw [ex]; dsimp only [Option.bind_some]; rw [ey]; rfl, fun F' as' H' us r' x' v1 => ?_⟩
    obtain ⟨u, w, rfl, q, q'⟩ := paired2 v1
    obtain ⟨p, us, rfl, hp, hq⟩ := seqL_of (H := H') (st := s1) hx q
    obtain ⟨p', vs, rfl, hp', hq'⟩ := seqL_of (H := H') (st := s1) hy q'
    refine ⟨p, p', us, vs, rfl, .inl ⟨hp (fun _ _ h => h) r'.toRSt, hp' (fun _ _ h => h) r'.toRSt, fun ⟨hh, ok⟩ => k F' as' H' _ r' x' (yields_z (fun hF _ _ r2 => hp hF r2) hq (fun hF _ _ r2 => hp' hF r2) hq') ?_⟩⟩
    have := sqL_le (X := X) ok (hp (fun _ _ h => h) r'.toRSt)
    rw [zipL_len, line_eq]
    rw [hq.length] at this
    omega
/-! ### join, startswith -/
theorem joinL_is (s : W) : ∀ ws : List W, TL.joinL s ws = joinW s ws
  | [] => rfl
  | [_] => rfl
  | x :: y :: r => by
    show x ++ (s ++ TL.joinL s (y :: r)) = x ++ s ++ joinW s (y :: r)
    rw [joinL_is s (y :: r), List.append_assoc]
theorem mt_join_ok {x y : Val} {st st' : Sto} {v : Val} (h : mtV .join x [y] st = some (v, st')) : MtFact X cs .join x [y] st st' v := by
  unfold mtV at h
  split at h <;> try contradiction
  rename_i s y' _ he
  cases he
  obtain ⟨ds, hd, h⟩ := obnd h
  obtain ⟨ws, hw, h⟩ := obnd h
  split at h
  case isFalse => cases h
  rename_i hz
  cases h
  refine ⟨_, _, .inr (.inl rfl), mt_join, F.plainAttrs_str, F.slot_str_join, F.type_str_join, fun F B as env σ H u us Q r q p k => ?_⟩
  obtain ⟨w', rfl, qy⟩ := paired1 p
  have e := str_of q
  subst e
  have hsz : ((ws.map S).map (·.length)).sum + (ws.map S).length * (S s).length ≤ 16777216 := by
    have e1 : (ws.map S).map (·.length) = ws.map List.length := by
      rw [List.map_map]
      exact congrArg (fun f => ws.map f) (funext fun w => S_len w)
    rw [e1, List.length_map, S_len, Nat.mul_comm]
    exact hz
  have hj : Txt.join (S s) (ws.map S) = S (joinW s ws) := by
    have := SX.join_S s ws
    rw [joinL_is] at this
    exact this
  unfold asLT at hd
  split at hd
  · rename_i ds' hs
    cases hd
    obtain ⟨a, us, rfl, ha, hq⟩ := asT_ok r.toRSt hs qy
    rw [textsD_ok hw hq] at ha
    exact ⟨S s, a, ws.map S, rfl, rfl, .inr (.of ha), hsz, by rw [hj]; exact k F H _ r r.refl vstr⟩
  · obtain ⟨a, us, rfl, ha, hq⟩ := asL_ok r.toRSt hd qy
    rw [textsD_ok hw hq] at ha
    exact ⟨S s, a, ws.map S, rfl, rfl, .inl ha, hsz, by rw [hj]; exact k F H _ r r.refl vstr⟩
/-! ### a place's list is walked -/
theorem plV_eq {env : Env} {i l : Nat} {st : Sto} {ds : List D} (h : plV env i st = some (l, ds)) : env[i]? = some (some (.ref l)) ∧ st[l]? = some (.lst ds) := by
  unfold plV at h
  split at h
  · rename_i l' he
    split at h
    · rename_i ds' hs
      cases h
      exact ⟨he, hs⟩
    · cases h
  · cases h
def fPl (i : Nat) : Env → Sto → Option (List D × Sto) := fun env st => (plV env i st).map fun r => (r.2, st)
def gPl (i : Nat) : Env → Sto → Sto → Prop := fun env st s => ∃ r, plV env i st = some r ∧ lstS r.1 r.2 s
theorem gPl_of {i : Nat} {env : Env} {st : Sto} {r : Nat × List D} (h : plV env i st = some r) : gPl i env st = lstS r.1 r.2 := by
  funext s
  unfold gPl
  rw [h]
  simp
theorem gPl_0 {i : Nat} : ∀ env st ds st', fPl i env st = some (ds, st') → gPl i env st' st' := fun env st ds st' h => by
  obtain ⟨⟨l, ds'⟩, hp, e⟩ := omap h
  cases e
  rw [gPl_of hp]
  exact (plV_eq hp).2
def fVar (i : Nat) : Env → Sto → Option (Val × Sto) := fun env st => match env[i]? with
    | some (some v) => some (v, st)
    | _ => none
theorem s_pl {tg : Expr} {i : Nat} (h : PE X e (tE X.K cs (fVar i))) : PI X tg e (tIG X.K cs (fPl i) (gPl i)) := by
  refine ⟨fun pins s σ H R I hw => ?_⟩
  obtain ⟨F, B, as, env, st, ds, st', r, ev, k⟩ := hw
  obtain ⟨⟨l, ds'⟩, hp, e⟩ := omap ev
  clear ev
  cases e
  obtain ⟨he, hst⟩ := plV_eq hp
  rw [gPl_of hp] at k
  dsimp only at k
  have at2 : ∀ {F2 as2 st2 H2 a}, RSt X.K cs F2 B as2 st2 H2 → as2[l]? = some a → st2[l]? = some (.lst ds') → ∃ us, H2 a = some (.lst us) ∧ Dens X.K F2 ds' us := fun {F2 as2 st2 H2 a} r2 ha hs => by
    obtain ⟨_, ho, e1, us, rfl, hq⟩ := r2.obj l a _ ha hs
    exact ⟨us, e1, hq⟩
  refine (pi_list h).held.run pins s σ H R I ⟨F, B, as, env, st, .ref l, st, r, by unfold fVar; rw [he], fun F' as' H' u r' x' v1 => ?_⟩
  obtain ⟨a, ea, rfl⟩ := v1
  obtain ⟨us, hu, hq⟩ := at2 r'.toRSt ea hst
  refine ⟨a, rfl, ⟨us, .of hu⟩, fun ⟨hh, ok⟩ => k F' as' H' _ r' x' ⟨fun i hF hpre hG r2 hl => ?_, fun i d hF hpre hG r2 hd => ?_, fun i d x H3 hF hpre hG r2 hd y => ?_⟩ (by rw [line_eq, ← hq.length]; exact ok.lst_le hu)⟩
  · obtain ⟨us2, h2, q2⟩ := at2 r2 (pre_get hpre ea) hG
    exact ⟨us2, .of h2, by rw [q2.length]; exact Nat.le_of_eq hl⟩
  · obtain ⟨us2, h2, q2⟩ := at2 r2 (pre_get hpre ea) hG
    obtain ⟨u, e, _⟩ := q2.get hd
    exact ⟨us2, u, .of h2, e⟩
  · obtain ⟨us2, h2, q2⟩ := at2 r2 (pre_get hpre ea) hG
    obtain ⟨u, e, q⟩ := q2.get hd
    obtain ⟨rfl, y2⟩ := y
    have := y2 us2 (.of h2)
    rw [e] at this; cases this
    exact ⟨_, r2, r2.refl, q⟩
end
end NK
set_option Elab.async false
set_option linter.all false
set_option autoImplicit false
set_option maxRecDepth 100000
/-! NkL3: a dict that is walked is locked meanwhile. -/
namespace NK
open PySem PySem.Spec PyProof.Rows L2
/-- a dict, locked or not -/
def DkO (kvs : List (Key × V)) (o : HO) : Prop := o = .dK kvs ∨ ∃ ob, o = .frz ob (.dK kvs)
/-- the same but for dicts' locks -/
def Lk (F F' : Hp) : Prop := ∀ a x, F a = some x → F' a = some x ∨ ∃ kvs x', DkO kvs x ∧ F' a = some x' ∧ DkO kvs x'
section
variable {K : PySem.W.Frag} {F F' : Hp}
theorem Lk.rdK (h : Lk F F') {p : Addr} {kvs : List (Key × V)} (q : Rd F p (.dK kvs)) : Rd F' p (.dK kvs) := by
  have : ∃ x, F p = some x ∧ DkO kvs x := by
    rcases q with q | ⟨o, q⟩
    · exact ⟨_, q, .inl rfl⟩
    · exact ⟨_, q, .inr ⟨o, rfl⟩⟩
  obtain ⟨x, hx, hk⟩ := this
  rcases h p x hx with e | ⟨kvs', x', k1, e, k2⟩
  · rcases hk with rfl | ⟨ob, rfl⟩
    · exact .inl e
    · exact .inr ⟨_, e⟩
  · have : kvs' = kvs := by
      rcases hk with rfl | ⟨ob, rfl⟩ <;> rcases k1 with k | ⟨ob', k⟩ <;> cases k <;> rfl
    subst this
    rcases k2 with rfl | ⟨ob, rfl⟩
    · exact .inl e
    · exact .inr ⟨_, e⟩
theorem Lk.other (h : Lk F F') {p : Addr} {x : HO} (q : F p = some x) (hn : ∀ kvs, ¬ DkO kvs x) : F' p = some x := by
  rcases h p x q with e | ⟨kvs', x', k1, e, k2⟩
  · exact e
  · exact absurd k1 (hn _)
theorem Lk.rdT (h : Lk F F') {p : Addr} {kvs : List (List Key × V)} (q : Rd F p (.dT kvs)) : Rd F' p (.dT kvs) := by
  rcases q with q | ⟨o, q⟩
  · exact .inl (h.other q fun _ z => by rcases z with z | ⟨_, z⟩ <;> cases z)
  · exact .inr ⟨o, h.other q fun _ z => by rcases z with z | ⟨_, z⟩ <;> cases z⟩
theorem Lk.sqL (h : Lk F F') {p : Addr} {us : List V} (q : SqL K F p us) : SqL K F' p us := by
  rcases q with (q | ⟨o, q⟩) | q
  · exact .inl (.inl (h.other q fun _ z => by rcases z with z | ⟨_, z⟩ <;> cases z))
  · exact .inl (.inr ⟨o, h.other q fun _ z => by rcases z with z | ⟨_, z⟩ <;> cases z⟩)
  · exact .inr q
mutual
theorem Den.lk (h : Lk F F') : ∀ (d : D) (u : V), Den K F d u → Den K F' d u
  | .non, _, q => q
  | .bl _, _, q => q
  | .int _, _, q => q
  | .str _, _, q => q
  | .tup ds, u, q => by
    obtain ⟨p, us, e, a, b⟩ := Den.tup_iff.mp q
    exact Den.tup_iff.mpr ⟨p, us, e, h.other a (fun _ z => by rcases z with z | ⟨_, z⟩ <;> cases z), Dens.lk h ds us b⟩
  | .lst ds, u, q => by
    obtain ⟨p, us, e, a, b⟩ := Den.lst_iff.mp q
    exact Den.lst_iff.mpr ⟨p, us, e, h.other a (fun _ z => by rcases z with z | ⟨_, z⟩ <;> cases z), Dens.lk h ds us b⟩
  | .scr ns, u, q => by
    obtain ⟨p, e, a⟩ := Den.scr_iff.mp q
    exact Den.scr_iff.mpr ⟨p, e, h.sqL a⟩
  | .dK ks ds, u, q => by
    obtain ⟨p, us, e, a, l, b⟩ := Den.dK_iff.mp q
    exact Den.dK_iff.mpr ⟨p, us, e, h.rdK a, l, Dens.lk h ds us b⟩
  | .dT ks ds, u, q => by
    obtain ⟨p, us, e, a, l, b⟩ := Den.dT_iff.mp q
    exact Den.dT_iff.mpr ⟨p, us, e, h.rdT a, l, Dens.lk h ds us b⟩
theorem Dens.lk (h : Lk F F') : ∀ (ds : List D) (us : List V), Dens K F ds us → Dens K F' ds us
  | [], _, q => by simp only [Dens] at q ⊢; exact q
  | d :: ds, us, q => by
    obtain ⟨u, us', e, a, b⟩ := Dens.cons.mp q
    exact Dens.cons.mpr ⟨u, us', e, Den.lk h d u a, Dens.lk h ds us' b⟩
end
theorem Top.lk {G G' : Hp} (h : Lk F F') (hg : Lk G G') : ∀ {d : D} {u : V}, Top K G F d u → Top K G' F' d u
  | .lst ds, u, q => by obtain ⟨p, us, e, a, b⟩ := q; exact ⟨p, us, e, hg.other a (fun _ z => by rcases z with z | ⟨_, z⟩ <;> cases z), Dens.lk h _ _ b⟩
  | .dK ks ds, u, q => by obtain ⟨p, us, e, a, l, b⟩ := q; exact ⟨p, us, e, hg.rdK a, l, Dens.lk h _ _ b⟩
  | .dT ks ds, u, q => by obtain ⟨p, us, e, a, l, b⟩ := q; exact ⟨p, us, e, hg.rdT a, l, Dens.lk h _ _ b⟩
  | .non, _, q => q.elim
  | .bl _, _, q => q.elim
  | .int _, _, q => q.elim
  | .str _, _, q => q.elim
  | .tup _, _, q => q.elim
  | .scr _, _, q => q.elim
theorem VOk.lk {B B' : Hp} {as : List Addr} (h : Lk F F') (hb : Lk B B') : ∀ {v : Val} {u : V}, VOk K F B as v u → VOk K F' B' as v u
  | .dat d, u, q => Den.lk h d u q
  | .bor d, u, q => Top.lk h hb q
  | .ref l, u, q => q
theorem OOk.lk {cs : Nat → Option Addr} {B B' : Hp} {as : List Addr} (h : Lk F F') (hb : Lk B B') : ∀ {o : Obj} {ho : HO}, OOk K cs F B as o ho → OOk K cs F' B' as o ho
  | .lst ds, ho, q => by obtain ⟨us, e, b⟩ := q; exact ⟨us, e, Dens.lk h _ _ b⟩
  | .dK ks ds, ho, q => by obtain ⟨us, e, l, b⟩ := q; exact ⟨us, e, l, Dens.lk h _ _ b⟩
  | .dT ks ds, ho, q => by obtain ⟨us, e, l, b⟩ := q; exact ⟨us, e, l, Dens.lk h _ _ b⟩
  | .ins c fs, ho, q => by
    obtain ⟨C, dx, gs, e1, e2, b⟩ := q
    exact ⟨C, dx, gs, e1, e2, Paired.mapP b fun p q r => ⟨r.1, r.2.lk h hb⟩⟩
  | .dead, _, _ => trivial
end
/-- what stands at d is o, where something stands -/
def lkH (d : Addr) (o : HO) (G : Hp) : Hp := fun a => if a = d then (G d).map (fun _ => o) else G a
theorem lkH_ne {d a : Addr} {o : HO} {G : Hp} (h : a ≠ d) : lkH d o G a = G a := if_neg h
theorem lkH_at {d : Addr} {o : HO} {G : Hp} : lkH d o G d = (G d).map fun _ => o := if_pos rfl
theorem lkH_none {d a : Addr} {o : HO} {G : Hp} : lkH d o G a = none ↔ G a = none := by
  by_cases h : a = d
  · subst h; rw [lkH_at]; simp
  · rw [lkH_ne h]
theorem lkH_lk {d : Addr} {o x : HO} {G : Hp} {kvs : List (Key × V)} (ho : DkO kvs o) (hx : DkO kvs x) (h : ∀ y, G d = some y → y = x) : Lk G (lkH d o G) := fun a y e => by
  by_cases ha : a = d
  · subst ha
    have := h y e
    subst this
    exact .inr ⟨kvs, o, hx, by rw [lkH_at, e]; rfl, ho⟩
  · exact .inl (by rw [lkH_ne ha]; exact e)
section
variable {K : PySem.W.Frag} {cs : Nat → Option Addr} {F B H : Hp} {as : List Addr} {env : Env} {st : Sto} {σ : L2.St}
theorem RSt.lkd (r : RSt K cs F B as st H) {d : Addr} {o x : HO} {kvs : List (Key × V)} (ho : DkO kvs o) (hx : DkO kvs x) (hd : H d = some x) (hF : d ∈ as → F d ≠ none) :
    RSt K cs (lkH d o F) (lkH d o B) as st (upd H d o) ∧ Lk F (lkH d o F) ∧ Lk B (lkH d o B) := by
  have l1 : Lk F (lkH d o F) := lkH_lk ho hx fun y e => by have := r.fh _ _ e; rw [hd] at this; cases this; rfl
  have l2 : Lk B (lkH d o B) := lkH_lk ho hx fun y e => by have := r.bh _ _ e; rw [hd] at this; cases this; rfl
  have up : ∀ {G : Hp}, (∀ a y, G a = some y → H a = some y) → ∀ a y, lkH d o G a = some y → upd H d o a = some y := fun {G} hG a y e => by
    by_cases ha : a = d
    · subst ha
      rw [lkH_at] at e
      obtain ⟨z, _, e2⟩ := Option.map_eq_some_iff.mp e
      rw [upd_same, e2]
    · rw [lkH_ne ha] at e
      rw [upd_ne ha]
      exact hG _ _ e
  refine ⟨⟨up r.fh, up r.bh, r.nd, r.len, fun a ha => lkH_none.mpr (r.nb a ha), fun l a o' e1 e2 => ?_⟩, l1, l2⟩
  obtain ⟨z, hob, e3, e4⟩ := r.obj l a o' e1 e2
  by_cases ha : a = d
  · subst ha
    have z' : o' = .dead := z.resolve_right (hF (List.mem_of_getElem? e1))
    subst z'
    exact ⟨.inl rfl, o, upd_same, trivial⟩
  · exact ⟨z.imp id fun z => lkH_none.mpr z, hob, by rw [upd_ne ha]; exact e3, e4.lk l1 l2⟩
theorem Rel.lkd (r : Rel K cs F B as env st σ H) {d : Addr} {o x : HO} {kvs : List (Key × V)} (ho : DkO kvs o) (hx : DkO kvs x) (hd : H d = some x) (hF : d ∈ as → F d ≠ none) :
    Rel K cs (lkH d o F) (lkH d o B) as env st σ (upd H d o) :=
  let ⟨a, l1, l2⟩ := r.toRSt.lkd ho hx hd hF
  { a with slot := fun i v e => let ⟨u, e1, e2⟩ := r.slot i v e; ⟨u, e1, e2.lk l1 l2⟩, elen := r.elen }
theorem upd_back {d : Addr} {o x : HO} {G : Hp} (h : ∀ y, G d = some y → y = x) : lkH d x (lkH d o G) = G := by
  funext a
  by_cases ha : a = d
  · subst ha
    rw [lkH_at, lkH_at]
    cases e : G a with
    | none => rfl
    | some y => rw [h y e]; rfl
  · rw [lkH_ne ha, lkH_ne ha]
/-- what was done while d was locked, seen from outside -/
theorem Ext.lkd {F2 H2 : Hp} {as2 : List Addr} (r : RSt K cs F B as st H) {d : Addr} {o x : HO} (hd : H d = some x) (hF : d ∈ as → F d ≠ none) (hd2 : H2 d = some o) (e : Ext (lkH d o F) as (upd H d o) F2 as2 H2) : Ext F as H (lkH d x F2) as2 (upd H2 d x) := by
  refine ⟨fun a y h => ?_, e.pre, fun a y h hn => ?_, fun a ha => ?_, fun a h h0 => ?_, fun a h hn => ?_⟩
  · by_cases ha : a = d
    · subst ha
      have := r.fh _ _ h
      rw [hd] at this; cases this
      have := e.ff a o (by rw [lkH_at, h]; rfl)
      rw [lkH_at, this]; rfl
    · rw [lkH_ne ha]
      exact e.ff _ _ (by rw [lkH_ne ha]; exact h)
  · by_cases ha : a = d
    · subst ha
      rw [hd] at h; cases h
      exact upd_same
    · rw [upd_ne ha]
      exact e.fr _ _ (by rw [upd_ne ha]; exact h) hn
  · by_cases h : a = d
    · subst h; rw [upd_same]; simp
    · rw [upd_ne h]; exact e.frA a ha
  · have h2 : F2 a ≠ none := fun z => h (lkH_none.mpr z)
    rcases e.nf a h2 (lkH_none.mpr h0) with z | z
    · by_cases ha : a = d
      · subst ha; rw [upd_same] at z; cases z
      · rw [upd_ne ha] at z; exact .inl z
    · exact .inr z
  · have z := e.na a h hn
    by_cases ha : a = d
    · subst ha; rw [upd_same] at z; cases z
    · rw [upd_ne ha] at z; exact z
end
section
variable {X : Cx} {cs : Nat → Option Addr} {e : Expr} {pos : Pos} {ff : Env → Sto → Option Out}
/-- the lock is taken off again -/
theorem unlk {F B H F2 H2 : Hp} {as as2 : List Addr} {st st2 : Sto} {d : Addr} {kvs : List (Key × V)} {od : PySem.Obj} (r : RSt X.K cs F B as st H) (hd : H d = some (.dK kvs)) (hFB : F d ≠ none ∨ B d ≠ none)
    (r2 : RSt X.K cs F2 (lkH d (.frz od (.dK kvs)) B) as2 st2 H2) (x2 : Ext (lkH d (.frz od (.dK kvs)) F) as (upd H d (.frz od (.dK kvs))) F2 as2 H2) :
    H2 d = some (.frz od (.dK kvs)) ∧ RSt X.K cs (lkH d (.dK kvs) F2) B as2 st2 (upd H2 d (.dK kvs)) ∧ Ext F as H (lkH d (.dK kvs) F2) as2 (upd H2 d (.dK kvs)) ∧ Lk F2 (lkH d (.dK kvs) F2) ∧ Lk (lkH d (.frz od (.dK kvs)) B) B := by
  have hF : d ∈ as → F d ≠ none := fun hm => hFB.resolve_right fun h => h (r.nb d hm)
  have hd2 : H2 d = some (.frz od (.dK kvs)) := by
    rcases hFB with h | h
    · obtain ⟨y, hy⟩ := Option.ne_none_iff_exists'.mp h
      exact r2.fh _ _ (x2.ff d (.frz od (.dK kvs)) (by rw [lkH_at, hy]; rfl))
    · obtain ⟨y, hy⟩ := Option.ne_none_iff_exists'.mp h
      exact r2.bh d (.frz od (.dK kvs)) (by rw [lkH_at, hy]; rfl)
  have hF2 : d ∈ as2 → F2 d ≠ none := fun hm => by
    rcases hFB with h | h
    · obtain ⟨y, hy⟩ := Option.ne_none_iff_exists'.mp h
      have := x2.ff d (.frz od (.dK kvs)) (by rw [lkH_at, hy]; rfl)
      rw [this]; simp
    · exact absurd (lkH_none.mp (r2.nb d hm)) h
  have bk : lkH d (.dK kvs) (lkH d (.frz od (.dK kvs)) B) = B := upd_back fun y hy => by
    have := r.bh _ _ hy
    rw [hd] at this; cases this; rfl
  obtain ⟨r3, l1, l2⟩ := r2.lkd (o := .dK kvs) (.inl rfl) (.inr ⟨od, rfl⟩) hd2 hF2
  rw [bk] at r3 l2
  exact ⟨hd2, r3, Ext.lkd r hd hF hd2 x2, l1, l2⟩
def fKy (i : Nat) : Env → Sto → Option (List D × Sto) := fun env st => (kyV env i).map fun ds => (ds, st)
/-- the dict of the name i is locked -/
def Zk (i : Nat) : L2.St → Hp → Prop := fun σ H => ∃ p o kvs, σ[i]? = some (some (.ref p)) ∧ H p = some (.frz o (.dK kvs))
/-- where the dict of a name lies -/
theorem ky_at {F B H : Hp} {as : List Addr} {env : Env} {st : Sto} {σ : L2.St} (r : Rel X.K cs F B as env st σ H) {i : Nat} {ds : List D} (h : kyV env i = some ds) : ∃ (p : Addr) (us : List V) (ks : List K1), σ[i]? = some (some (.ref p)) ∧ ds = ks.map k2D ∧ ks.length = us.length ∧ (Rd F p (.dK ((ks.map kk).zip us)) ∨ Rd B p (.dK ((ks.map kk).zip us))) := by
  unfold kyV at h
  split at h
  · rename_i ks es he
    cases h
    obtain ⟨u, s1, q⟩ := r.slot i _ he
    obtain ⟨p, us, rfl, a, l, b⟩ := Den.dK_iff.mp q
    exact ⟨p, us, ks, s1, rfl, by rw [l, b.length], .inl a⟩
  · rename_i ks es he
    cases h
    obtain ⟨u, s1, q⟩ := r.slot i _ he
    obtain ⟨p, us, rfl, a, l, b⟩ := q
    exact ⟨p, us, ks, s1, rfl, by rw [l, b.length], .inr a⟩
  · cases h
theorem rd_kvs {F : Hp} {p : Addr} {kvs kvs' : List (Key × V)} {o : PySem.Obj} (h : Rd F p (.dK kvs)) (e : F p = some (.frz o (.dK kvs'))) : kvs' = kvs := by
  rcases h with h | ⟨_, h⟩ <;> rw [e] at h <;> cases h
  rfl
theorem s_ky {tg : Expr} {i : Nat} (h : PE X e (tVar i)) : PI X tg e fun σ H R => Zk i σ H ∧ tIG X.K cs (fKy i) anyG σ H R := (pi_keys h).held.weak fun σ H R ⟨⟨p, o, kvs, e1, e2⟩, F, B, as, env, st, ds, st', r, ev, k⟩ => by
  obtain ⟨ds', hk, e⟩ := omap ev
  clear ev
  cases e
  obtain ⟨p', us, ks, s1, rfl, hl, hrd⟩ := ky_at r hk
  rw [e1] at s1
  cases s1
  have hx : kvs = (ks.map kk).zip us ∧ (F p = some (.frz o (.dK kvs)) ∨ B p = some (.frz o (.dK kvs))) := by
    rcases hrd with h | h
    · have : F p = some (.frz o (.dK kvs)) := by
        rcases h with h | ⟨_, h⟩ <;> have := r.fh _ _ h <;> rw [e2] at this <;> cases this
        exact h
      exact ⟨rd_kvs h this, .inl this⟩
    · have : B p = some (.frz o (.dK kvs)) := by
        rcases h with h | ⟨_, h⟩ <;> have := r.bh _ _ h <;> rw [e2] at this <;> cases this
        exact h
      exact ⟨rd_kvs h this, .inr this⟩
  obtain ⟨rfl, hFB⟩ := hx
  have hlen : ((ks.map kk).zip us).length = ks.length := by rw [List.length_zip, List.length_map, hl, Nat.min_self]
  have at2 : ∀ {F2 as2 st2 H2}, (∀ a o, F a = some o → F2 a = some o) → RSt X.K cs F2 B as2 st2 H2 → H2 p = some (.frz o (.dK ((ks.map kk).zip us))) := fun hF r2 => by
    rcases hFB with z | z
    · exact r2.fh _ _ (hF _ _ z)
    · exact r2.bh _ _ z
  refine ⟨.ref p, e1, p, o, rfl, .inl ⟨_, e2, fun ⟨hh, ok⟩ => k F as H _ r r.refl ⟨fun j hF _ _ r2 hj => ?_, fun j d hF _ _ r2 hj => ?_, fun j d x H3 hF _ _ r2 hj y => ?_⟩ ?_⟩⟩
  · exact ⟨at2 hF r2, by rw [hlen]; rw [List.length_map] at hj; exact Nat.le_of_eq hj⟩
  · refine ⟨at2 hF r2, ?_⟩
    rw [hlen]
    have := (List.getElem?_eq_some_iff.mp hj).1
    rw [List.length_map] at this
    exact this
  · obtain ⟨rfl, kx, v, hkv, rfl⟩ := y
    rw [List.getElem?_map] at hj
    obtain ⟨k0, hk0, rfl⟩ := Option.map_eq_some_iff.mp hj
    have hkk : kx = kk k0 := by
      have h1 := (List.getElem?_zip_eq_some.mp hkv).1
      rw [List.getElem?_map, hk0] at h1
      exact (Option.some.inj h1).symm
    subst hkk
    refine ⟨_, r2, r2.refl, ?_⟩
    cases k0 with
    | inl z => exact Den.int_iff.mpr rfl
    | inr w => exact Den.str_iff.mpr rfl
  · rw [List.length_map, line_eq, ← hlen]
    have := (ok p _ e2).2
    exact this.1
theorem s_forD {bind : D → Env → Option Env} {t : TG} {tgl : List Nat} {tg : Expr} {b : List Stmt} {i : Nat} (hp : PassesOwn (model X.prog X.w) X.A X.env X.xe) (hc : X.calm = true) (he : PE X e (tVar i)) (hg : PG X tg t) (ht : TgOk X.K cs t bind tgl) (hb : PSs X b (tS X.K cs ff))
    (hs : ∀ x, foldedSetIterable e X.env x = pure x) : PS X (.For tg e b [] pos) (tS X.K cs (fFor (fKy i) bind ff)) := by
  have base := s_forGZ (pos := pos) (Z := Zk i) (fi := fKy i) (G := anyG) hp hc (s_ky he) hg ht hb hs fun _ _ _ _ _ => trivial
  rw [fForG_any] at base
  refine ⟨fun pins s σ H D I hw => ?_⟩
  obtain ⟨F, B, as, env, st, o, r, ev, k1, k2⟩ := hw
  obtain ⟨⟨ds, s1⟩, hfi, _⟩ := obnd ev
  obtain ⟨ds', hk, eds⟩ := omap hfi
  cases eds
  obtain ⟨p, us, ks, s1, rfl, hl, hrd⟩ := ky_at r hk
  have hrH : Rd H p (.dK ((ks.map kk).zip us)) ∧ (F p ≠ none ∨ B p ≠ none) := by
    rcases hrd with h | h
    · exact ⟨rd_mono r.fh h, .inl (by rcases h with h | ⟨_, h⟩ <;> rw [h] <;> simp)⟩
    · exact ⟨rd_mono r.bh h, .inr (by rcases h with h | ⟨_, h⟩ <;> rw [h] <;> simp)⟩
  obtain ⟨hrH, hFB⟩ := hrH
  rcases hrH with hx | ⟨ob, hx⟩
  · have hF : p ∈ as → F p ≠ none := fun hm => hFB.resolve_right fun h => h (r.nb p hm)
    refine (ps_lock base).run pins s σ H D I ⟨p, _, hx, trivial, fun od => ⟨⟨p, od, _, s1, upd_same⟩, _, _, as, env, st, o, r.lkd (.inr ⟨od, rfl⟩) (.inl rfl) hx hF, ev, fun e' s' eo F2 as2 H2 σ2 r2 x2 => ?_, fun v s' eo F2 as2 H2 u r2 x2 v2 => ?_⟩⟩
    · obtain ⟨h1, h2, h3, l1, l2⟩ := unlk r.toRSt hx hFB r2.toRSt x2
      exact ⟨h1, k1 e' s' eo _ as2 _ σ2 { h2 with slot := fun j w e => let ⟨u, e1, e2⟩ := r2.slot j w e; ⟨u, e1, e2.lk l1 l2⟩, elen := r2.elen } h3⟩
    · obtain ⟨h1, h2, h3, l1, l2⟩ := unlk r.toRSt hx hFB r2 x2
      exact ⟨h1, k2 v s' eo _ as2 _ u h2 h3 (v2.lk l1 l2)⟩
  · exact base.run pins s σ H D I ⟨⟨p, ob, _, s1, hx⟩, F, B, as, env, st, o, r, ev, k1, k2⟩
/-- what makes a list while a dict is walked -/
theorem lock_of {f : Env → Sto → Option (Obj × Sto)} {i : Nat} (hk : ∀ env st o st', f env st = some (o, st') → ∃ ds, kyV env i = some ds) (h : PE X e fun σ H Q => Zk i σ H ∧ tO X.K cs f σ H Q) : PE X e (tO X.K cs f) := by
  refine ⟨fun pins s σ H Q I hw => ?_⟩
  obtain ⟨F, B, as, env, st, o, st', r, ev, k⟩ := hw
  obtain ⟨ds, hky⟩ := hk _ _ _ _ ev
  obtain ⟨p, us, ks, s1, rfl, hl, hrd⟩ := ky_at r hky
  have hrH : Rd H p (.dK ((ks.map kk).zip us)) ∧ (F p ≠ none ∨ B p ≠ none) := by
    rcases hrd with h | h
    · exact ⟨rd_mono r.fh h, .inl (by rcases h with h | ⟨_, h⟩ <;> rw [h] <;> simp)⟩
    · exact ⟨rd_mono r.bh h, .inr (by rcases h with h | ⟨_, h⟩ <;> rw [h] <;> simp)⟩
  obtain ⟨hrH, hFB⟩ := hrH
  rcases hrH with hx | ⟨ob, hx⟩
  · have hF : p ∈ as → F p ≠ none := fun hm => hFB.resolve_right fun h => h (r.nb p hm)
    refine (pe_lock h).run pins s σ H Q I ⟨p, _, hx, trivial, fun od => ⟨⟨p, od, _, s1, upd_same⟩, _, _, as, env, st, o, st', r.lkd (.inr ⟨od, rfl⟩) (.inl rfl) hx hF, ev, fun F2 as2 H2 q ho r2 x2 n1 n2 n3 n4 ok => ?_⟩⟩
    obtain ⟨h1, h2, h3, l1, l2⟩ := unlk r.toRSt hx hFB r2.toRSt x2
    have hqp : q ≠ p := fun z => by subst z; rw [upd_same] at n1; cases n1
    rw [upd_ne hqp] at n1
    exact ⟨h1, k _ as2 _ q ho { h2 with slot := fun j w e => let ⟨u, e1, e2⟩ := r2.slot j w e; ⟨u, e1, e2.lk l1 l2⟩, elen := r2.elen } h3 n1 (lkH_none.mpr n2) n3 (by rw [upd_ne hqp]; exact n4) (ok.lk l1 l2)⟩
  · exact h.run pins s σ H Q I ⟨⟨p, ob, _, s1, hx⟩, F, B, as, env, st, o, st', r, ev, k⟩
end
end NK
set_option Elab.async false
set_option linter.all false
set_option autoImplicit false
set_option maxRecDepth 100000
/-! NkL4: max with a default, dict displays, update, calls without an argument. -/
namespace NK
open PySem PySem.Spec PyProof.Rows L2
section
variable {prog : Program} {w : World} {A : Around} {E : Value → Shared → Prop} {s : Shared} {l : Addr} {its : List Value} {ns : List Int} {Q : Value → Shared → Prop}
theorem moved_kept {s2 s' : Shared} {o : PySem.Obj} {I : Addr} (hI : I = s.heap.objs.size) (e : s2 = { s with heap := s.heap.push o }) (hm : Moved [I] (fun a b => b = a) s2 s') : ∃ h' tk, s' = { s with heap := h', toks := tk } ∧ ∀ b o, s.heap.get? b = some o → h'.get? b = some o := by
  subst hI e
  obtain ⟨hp, gn, dr, tk, os⟩ := s'
  obtain ⟨h1, h2, h3, h4, h5⟩ := hm
  dsimp only at h2 h3 h4
  subst h2 h3 h4
  refine ⟨hp, tk, rfl, fun b ob e => h1 b ob (fun hm => ?_) (Heap.get?_push_of_some _ e)⟩
  rcases List.mem_cons.mp hm with e1 | hm
  · exact absurd (e1 ▸ Heap.lt_size e) (Nat.lt_irrefl _)
  · cases hm
theorem maxd_raw {d : Value} (hh : A.handled = none) (hl : s.heap.IsList l its.toArray) (hi : IntsAre its ns)
    (h0 : ns = [] → ∀ h' tk, (∀ b o, s.heap.get? b = some o → h'.get? b = some o) → Q d { s with heap := h', toks := tk })
    (h : ∀ h' tk M t', (∀ b o, s.heap.get? b = some o → h'.get? b = some o) → M ∈ ns → (∀ a, a ∈ ns → a ≤ M) → Q (.int M t') { s with heap := h', toks := tk }) :
    wpAny (model prog w) A (PySem.call (.builtin "max") [.ref l] [(Str.ofString "default", d)]) Q E s := by
  obtain ⟨xs, e⟩ := hi.allInts.items
  have hn : numsOf (intItems xs).toList = ns := by rw [← e]; exact hi.numsOf
  rw [nums_intItems] at hn
  subst hn
  rw [e] at hl
  refine call_max_walkD (iter_intList hl fun s₂ e2 st hfp hlI => ?_)
  refine ⟨_, _, _, _, _, _, _, s.heap, fun i j => decide (numAt xs i > numAt xs j), rfl, (Walks.list (A := A.in1) hh _ l hlI (intItems xs)).toS, st, hfp, fun b o hb hm => ?_, fun b o hb => ?_, fun hz s' hm => ?_, fun hp => ⟨?_, fun v s' hP hm => ?_⟩⟩
  · rcases List.mem_cons.mp hm with e1 | hm
    · exact absurd (e1 ▸ Heap.lt_size hb) (Nat.lt_irrefl _)
    · cases hm
  · rw [e2]; exact Heap.get?_push_of_some _ hb
  · obtain ⟨h', tk, rfl, hk⟩ := moved_kept rfl e2 hm
    refine h0 ?_ h' tk hk
    have hz' : xs.size = 0 := by simpa [intItems] using hz
    have : xs.toList = [] := List.eq_nil_of_length_eq_zero (by rw [Array.length_toList]; exact hz')
    rw [this]; rfl
  · exact fun i j vi vj s' Q E _ hi hj hq => CmpOf.ints_gt (numAt xs) (fun _ _ => intItems_at) i j vi vj s' Q E hi hj hq
  · obtain ⟨h', tk, rfl, hk⟩ := moved_kept rfl e2 hm
    have hsz : 0 < xs.size := by simpa [intItems] using hp
    obtain ⟨t, rfl⟩ := intItems_at hP
    have e3 : (intItems xs).size - 1 = xs.size - 1 := by simp [intItems]
    rw [e3]
    obtain ⟨h1, h2⟩ := argBest_gt (numAt xs) (xs.size - 1)
    refine h h' tk _ t hk ?_ fun a ha => ?_
    · rw [numAt_eq]; exact PySem.getD_mem (by rw [List.length_map, Array.length_toList]; omega)
    · obtain ⟨j, hj, rfl⟩ := mem_getD ha
      rw [List.length_map, Array.length_toList] at hj
      rw [← numAt_eq]; exact h2 j (by omega)
end
section
variable {X : Cx} {cs : Nat → Option Addr} {e e1 e2 e3 : Expr} {es : List Expr} {f f1 f2 f3 : Env → Sto → Option (Val × Sto)} {g : Env → Sto → Option (List Val × Sto)} {pos : Pos}
def rMaxDf (K : PySem.W.Frag) : List V → List V → Hp → VK → Prop := fun vs zs H Q => ∃ (a : Addr) (ns : List Int) (d : V), vs = [V.ref a] ∧ zs = [d] ∧ SqL K H a (ns.map V.int) ∧ (ns = [] → Q d H) ∧ (∀ m, m ∈ ns → (∀ y, y ∈ ns → y ≤ m) → Q (.int m) H)
theorem cr_maxDf (hc : X.calm = true) : CallRK X (.builtin "max") [Str.ofString "default"] (rMaxDf X.K) := by
  intro pins s σ H vs zs us ws Q I r rz h
  obtain ⟨a, ns, d, rfl, rfl, hs, q0, q⟩ := h
  obtain ⟨its, rv, hl, _⟩ := I.list hs
  rw [Vals.ref1 r]
  obtain ⟨w1, rfl, e1⟩ := vals1 rz
  exact maxd_raw (I.ok.hd hc) hl.isList rv.ints (fun z h' tk hk => ⟨d, H, I.kept hk, e1, q0 z⟩) fun h' tk m t' hk h1 h2 => ⟨.int _, H, I.kept hk, ⟨_, rfl⟩, q m h1 h2⟩
def fMaxD (f1 f2 : Env → Sto → Option (Val × Sto)) : Env → Sto → Option (Val × Sto) := fun env st => (f1 env st).bind fun r => (f2 env r.2).bind fun q => (biV .maxD [r.1, q.1] q.2).map fun d => (.dat d, q.2)
theorem s_maxD {p kpos : Pos} {kw : Str} (hkw : kw = Str.ofString "default") (hc : X.calm = true) (hg : Gl X "max") (hm : X.mg "max" = none) (h1 : PE X e1 (tE X.K cs f1)) (h2 : PE X e2 (tE X.K cs f2)) (hs : nStar e1 = true) :
    PE X (.Call (.Name "max" p) [e1] [⟨some kw, e2, kpos⟩] pos) (tE X.K cs (fMaxD f1 f2)) := by
  subst hkw
  refine (pe_callBK (cr_maxDf hc) hg hm (by decide +kernel) (pa_cons h1 pa_nil (noStar hs)) (pk_cons h2 pk_nil) (by decide) (by decide) (by rw [noStar hs]; rfl) (by rw [noStar hs]; rfl) rfl rfl rfl).weak fun σ H Q ⟨F, B, as, env, st, v, st', r, ev, k⟩ => ?_
  obtain ⟨⟨x, s1⟩, ex, ev1⟩ := obnd ev
  obtain ⟨⟨y, s2⟩, ey, ev2⟩ := obnd ev1
  obtain ⟨d, hd, ev3⟩ := omap ev2
  clear ev ev1 ev2
  cases ev3
  refine ⟨F, B, as, env, st, x, s1, r, ex, fun F1 as1 H1 u r1 x1 v1 => ⟨F1, B, as1, env, s1, y, s2, r1, ey, fun F2 as2 H2 u2 r2 x2 v2 => ?_⟩⟩
  unfold biV at hd
  split at hd <;> try contradiction
  rename_i v i he1 he2
  cases he2
  obtain ⟨ds, hds, hd⟩ := obnd hd
  obtain ⟨ns, hns, e⟩ := omap hd
  subst e
  obtain ⟨a, us, rfl, ha, hq⟩ := asL_ok r2.toRSt hds (v1.ext x2)
  rw [intsD_ok hns hq] at ha
  refine ⟨a, ns, _, rfl, rfl, ha, fun z => ?_, fun m h1 h2 => ?_⟩
  · subst z
    refine k F2 as2 H2 _ r2 (x1.trans x2) ?_
    rw [int_of v2]; exact vint
  · refine k F2 as2 H2 _ r2 (x1.trans x2) ?_
    have hm : ∃ M, maxOf ns = some M := by
      have : ∀ ns : List Int, ns ≠ [] → ∃ M, maxOf ns = some M := by
        intro ns
        induction ns with
        | nil => intro h; exact absurd rfl h
        | cons a r ih =>
          intro _
          cases r with
          | nil => exact ⟨a, rfl⟩
          | cons b r =>
            obtain ⟨M, hM⟩ := ih (by simp)
            simp only [maxOf] at hM ⊢
            rw [hM]
            exact ⟨_, rfl⟩
      exact this ns (List.ne_nil_of_mem h1)
    obtain ⟨M, hM⟩ := hm
    obtain ⟨m1, m2⟩ := maxOf_ok hM
    have e : m = M := Int.le_antisymm (m2 _ h1) (h2 _ m1)
    subst e
    rw [hM]
    exact vint
/-! ### f() -/
theorem nil_of {sp : Sp} {E : XK} {σ : L2.St} {H : Hp} {Q : VK} (h : tCall sp [] E (tEs X.K cs fun _ st => some ([], st)) σ H Q) : tCall sp [] E tNil σ H Q := by
  obtain ⟨F, B, as, env, st, vs, st', r, ev, k⟩ := h
  cases ev
  exact k F as H [] r r.refl .nil
theorem s_call0 {C : Calls} {i : Nat} {m : List Bool} {d n : Nat} {x : Str} {p : Pos} (hx : FnAt X cs d n x (C i)) (hn : ∀ a s q, C i a s = some q → a.length = n) (hr : Room d X.A) (hg : Gl X x) (hd : (x == ("__debug__" : Str)) = false) :
    PE X (.Call (.Name x p) [] [] pos) (tE X.K cs fun env st => (fCallV C i m (fun _ st => some ([], st)) env st).bind frz) := by
  obtain ⟨fa, fd, ps, h1, h2, h3, h4⟩ := hx.ex
  refine (pe_call0 h4 hr hg h1 h2 h3 .nil pass0 hd).weak fun σ H Q h => ?_
  exact nil_of (frz_of hn σ H Q h)
theorem s_callA0 {C : Calls} {i : Nat} {m : List Bool} {d n : Nat} {x : Str} {p : Pos} (hx : FnAt X cs d n x (C i)) (hn : ∀ a s q, C i a s = some q → a.length = n) (hr : Room d X.A) (hg : Gl X x) (hd : (x == ("__debug__" : Str)) = false) :
    PE X (.Call (.Name x p) [] [] pos) (tE X.K cs fun env st => (fCallV C i m (fun _ st => some ([], st)) env st).bind own) := by
  obtain ⟨fa, fd, ps, h1, h2, h3, h4⟩ := hx.ex
  refine (pe_call0 h4 hr hg h1 h2 h3 .nil pass0 hd).weak fun σ H Q h => ?_
  exact nil_of (own_of hn σ H Q h)
/-! ### {k: v, ..} -/
def tKVok (X : Cx) (cs : Nat → Option Addr) (trs : List (TE × TE)) (f : Env → Sto → Option ((List K1 × List D) × Sto)) : Prop := ∀ σ H Q,
  (∃ F B as env st r st', Rel X.K cs F B as env st σ H ∧ f env st = some (r, st') ∧ ∀ F' as' H' us, Rel X.K cs F' B as' env st' σ H' → Ext F as H F' as' H' → Dens X.K F' r.2 us → r.1.length = r.2.length → Q ((r.1.map k2V).zip us) H') → tPairs trs σ H Q
theorem kv_nil : tKVok X cs [] fun _ st => some (([], []), st) := fun σ H Q ⟨F, B, as, env, st, r, st', rel, ev, k⟩ => by
  cases ev
  exact k F as H [] rel rel.refl (Dens.nil.mpr rfl) rfl
def fKV (f1 f2 : Env → Sto → Option (Val × Sto)) (f : Env → Sto → Option ((List K1 × List D) × Sto)) : Env → Sto → Option ((List K1 × List D) × Sto) := fun env st =>
  (f1 env st).bind fun x => (f2 env x.2).bind fun y => (toD y.1 y.2).bind fun p => (f env p.2).bind fun t => (keyR x.1).bind fun k =>
      if (dlook t.1.1 t.1.2 k).isSome then none else some ((k :: t.1.1, p.1 :: t.1.2), t.2)
theorem key_is {F B : Hp} {as : List Addr} {v : Val} {u : V} {k : K1} (h : keyR v = some k) (q : VOk X.K F B as v u) : u = k2V k := by
  unfold keyR at h
  split at h
  · unfold toK at h
    split at h
    · cases h; exact int_of q
    · cases h; exact str_of q
    · cases h
  · cases h
theorem kv_cons {trs : List (TE × TE)} {f : Env → Sto → Option ((List K1 × List D) × Sto)} (h : tKVok X cs trs f) : tKVok X cs ((tE X.K cs f1, tE X.K cs f2) :: trs) (fKV f1 f2 f) := fun σ H Q ⟨F, B, as, env, st, r, st', rel, ev, k⟩ => by
  obtain ⟨⟨x, s1⟩, ex, ev⟩ := obnd ev
  obtain ⟨⟨y, s2⟩, ey, ev⟩ := obnd ev
  obtain ⟨⟨d, s3⟩, ed, ev⟩ := obnd ev
  obtain ⟨⟨⟨ks, ds⟩, s4⟩, et, ev⟩ := obnd ev
  obtain ⟨kx, ek, ev⟩ := obnd ev
  dsimp only at ex ey ed et ek ev
  split at ev
  · cases ev
  cases ev
  refine ⟨F, B, as, env, st, x, s1, rel, ex, fun F1 as1 H1 u r1 x1 v1 => ⟨F1, B, as1, env, s1, y, s2, r1, ey, fun F2 as2 H2 u2 r2 x2 v2 => ?_⟩⟩
  obtain ⟨F3, r3, x3, q3⟩ := toD_ok r2 ed v2
  refine h σ H2 _ ⟨F3, B, as2, env, s3, (ks, ds), _, r3, et, fun F4 as4 H4 us r4 x4 d4 hl => ?_⟩
  have := k F4 as4 H4 (u2 :: us) r4 (((x1.trans x2).trans x3).trans x4) (Dens.cons.mpr ⟨u2, us, rfl, Den.mono x4.ff _ _ q3, d4⟩) (by simpa using hl)
  rw [key_is ek v1]
  exact this
theorem RSt.over {F B H : Hp} {as : List Addr} {st : Sto} (r : RSt X.K cs F B as st H) {p : Addr} {o : HO} (hF : F p = none) (hB : B p = none) (ha : p ∉ as) : RSt X.K cs F B as st (upd H p o) := by
  refine ⟨fun a x h => ?_, fun a x h => ?_, r.nd, r.len, r.nb, fun l a x e1 e2 => ?_⟩
  · rw [upd_ne (by intro e; rw [e, hF] at h; cases h)]; exact r.fh _ _ h
  · rw [upd_ne (by intro e; rw [e, hB] at h; cases h)]; exact r.bh _ _ h
  · obtain ⟨z, ho, e3, e4⟩ := r.obj l a x e1 e2
    exact ⟨z, ho, by rw [upd_ne (by intro e; exact ha (e ▸ List.mem_of_getElem? e1))]; exact e3, e4⟩
theorem Ext.over {F F2 H H2 : Hp} {as as2 : List Addr} {p : Addr} {o o' : HO} (x : Ext F as (upd H p o) F2 as2 H2) (hp : H p = none) (ha : p ∉ as) : Ext F as H F2 as2 (upd H2 p o') := by
  refine ⟨x.ff, x.pre, fun a y h hn => ?_, fun a h => ?_, fun a h h' => ?_, fun a h h' => ?_⟩
  · have : a ≠ p := fun e => by rw [e, hp] at h; cases h
    rw [upd_ne this]
    exact x.fr a y (by rw [upd_ne this]; exact h) hn
  · have : a ≠ p := fun e => ha (e ▸ h)
    rw [upd_ne this]
    exact x.frA a h
  · rcases x.nf a h h' with q | q
    · have : a ≠ p := fun e => by rw [e, upd_same] at q; cases q
      rw [upd_ne this] at q
      exact .inl q
    · exact .inr q
  · have q := x.na a h h'
    have : a ≠ p := fun e => by rw [e, upd_same] at q; cases q
    rw [upd_ne this] at q
    exact q
theorem merge_new : ∀ {more kvs : List (Key × V)}, ((kvs ++ more).map (·.1)).Nodup → mergeK kvs more = kvs ++ more
  | [], kvs, _ => by simp [mergeK]
  | p :: r, kvs, h => by
    have h1 : valV kvs p.1 = none := by
      cases e : valV kvs p.1 with
      | none => rfl
      | some v =>
        exfalso
        have : p.1 ∈ kvs.map (·.1) := by
          unfold valV at e
          obtain ⟨q, hq, _⟩ := Option.map_eq_some_iff.mp e
          have h2 := List.mem_of_find?_eq_some hq
          have h3 := List.find?_some hq
          exact List.mem_map.mpr ⟨q, h2, by simpa using h3⟩
        rw [List.map_append, List.nodup_append] at h
        exact h.2.2 _ this _ (by simp) rfl
    have e : mergeK kvs (p :: r) = mergeK (putK kvs p.1 p.2) r := rfl
    rw [e, putK_new _ h1, merge_new (by simpa using h)]
    simp
theorem fst_zip_keys {ks : List K1} {us : List V} (h : ks.length = us.length) : ((ks.map kk).zip us).map (·.1) = ks.map kk := by
  rw [List.map_fst_zip (by rw [List.length_map]; omega)]
theorem pairs_zip : ∀ {ks : List K1} {us : List V}, (ks.map k2V).zip us = ((ks.map kk).zip us).map fun kv => (kV kv.1, kv.2)
  | [], us => by simp
  | k :: ks, [] => by simp
  | k :: ks, u :: us => by
    simp only [List.map_cons, List.zip_cons_cons]
    rw [pairs_zip (ks := ks), k2V_kV]
theorem s_dic {keys : List (Option Expr)} {values : List Expr} {trs : List (TE × TE)} {f : Env → Sto → Option ((List K1 × List D) × Sto)} (h : PPs X pos keys values trs) (hk : tKVok X cs trs f) (hall : keys.all (·.isSome) = true) (hl : keys.length = values.length) (h0 : keys ≠ []) (h15 : keys.length ≤ 15)
    (hn : ∀ env st r st', f env st = some (r, st') → r.1.length = keys.length ∧ r.1.Nodup) : PE X (.Dict keys values pos) (tO X.K cs fun env st => (f env st).map fun r => (.dK r.1.1 r.1.2, r.2)) :=
  (pe_disp h hall hl h0 h15).weak fun σ H Q ⟨F, B, as, env, st, o, st', rel, ev, k⟩ => by
    obtain ⟨⟨⟨ks, ds⟩, s1⟩, e1, e2⟩ := omap ev
    cases e2
    intro p hp
    obtain ⟨r1, x1⟩ := rel.toRSt.extra (o := .dK []) hp
    obtain ⟨f1, f2, f3⟩ := rel.toRSt.free hp
    refine hk σ _ _ ⟨F, B, as, env, st, (ks, ds), s1, rel.slots x1 r1, e1, fun F2 as2 H2 us r2 x2 hd hle => ?_⟩
    obtain ⟨hn1, hn2⟩ := hn _ _ _ _ e1
    dsimp only at hn1 hn2 hle hd
    have hus := hd.length
    have hH2 := x2.fr p _ upd_same f3
    have hF2 : F2 p = none := by
      cases q : F2 p with
      | none => rfl
      | some z =>
        rcases x2.nf p (by rw [q]; simp) f1 with q | q
        · rw [upd_same] at q; cases q
        · exact absurd q f3
    have ha2 : p ∉ as2 := fun hm => by
      have q := x2.na p hm f3
      rw [upd_same] at q; cases q
    refine ⟨hH2, (ks.map kk).zip us, pairs_zip, ?_, ?_⟩
    · rw [List.length_zip, List.length_map]; omega
    · have hnd : (ks.map kk).Nodup := by
        rw [List.Nodup, List.pairwise_map]
        exact hn2.imp fun h e => h (kk_inj e)
      rw [merge_new (by rw [List.nil_append, fst_zip_keys (by omega)]; exact hnd), List.nil_append]
      have r3 := r2.toRSt.over (o := .dK ((ks.map kk).zip us)) hF2 f2 ha2
      have x3 := x2.over (o' := .dK ((ks.map kk).zip us)) hp f3
      refine k F2 as2 _ p _ { r3 with slot := r2.slot, elen := r2.elen } x3 hp hF2 ha2 upd_same ⟨us, rfl, hle, hd⟩
/-! ### d.update(d2) -/
def rDUpdate : V → List V → Hp → VK → Prop := fun x vs H Q => ∃ (a o : Addr) (kvs more : List (Key × V)), x = .ref a ∧ vs = [.ref o] ∧ H a = some (.dK kvs) ∧ Rd H o (.dK more) ∧ a ≠ o ∧ kvs.length + more.length ≤ sizeLine ∧ Q .non (upd H a (.dK (mergeK kvs more)))
theorem mtd_update : MtR X "dict.update" rDUpdate := by
  intro pins s σ H x vs v us Q I rx rv h
  obtain ⟨a, o, kvs, more, ex, ev, e, e2, hne, hsz, q⟩ := h
  subst ex ev
  obtain rfl : v = Value.ref a := rx
  rw [Vals.ref1 rv]
  obtain ⟨z, hd, vs0, rel, dd⟩ := dk_of I.hok e
  obtain ⟨z2, hd2, ms, rel2, dd2⟩ := dk_rd I.hok e2
  refine call_meetsIn PySem.F.slot_dict_update dd.typeIs PySem.F.entry_dict_update (PySem.F.args_dict_update_2 _ _) (meets_dict_update (mixKind X.prog X.w) a o hne hd2) ⟨vs0, ms, dd, dd2, by rw [← rel.length, ← rel2.length]; exact hsz, fun h' dd' _ hs => ?_⟩
  refine ⟨.non, _, ?_, rfl, q⟩
  have hz : (mergeK kvs more).length ≤ sizeLine := Nat.le_trans (length_mergeK more kvs) hsz
  have he : ∃ q, h'.get? a = some q := let ⟨q, _, _, hq, _⟩ := dd'; ⟨q, hq⟩
  exact d_write (t' := s.toks) I (by rw [e]; exact True.intro) hs he (dk_new hz hd (rel2.merge rel) dd')
theorem upd_zip {K : PySem.W.Frag} {F : Hp} : ∀ {js : List K1} {es : List D} {ks : List K1} {ds : List D} {us vs : List V}, js.length = es.length → Dens K F es vs → ks.length = ds.length → Dens K F ds us →
    ∃ us', mergeK ((ks.map kk).zip us) ((js.map kk).zip vs) = ((updK ks ds js es).1.map kk).zip us' ∧ (updK ks ds js es).1.length = (updK ks ds js es).2.length ∧ Dens K F (updK ks ds js es).2 us'
  | [], [], ks, ds, us, vs, _, _, hl, hd => ⟨us, by simp [mergeK, updK], hl, hd⟩
  | [], _ :: _, _, _, _, _, h, _, _, _ => by simp at h
  | _ :: _, [], _, _, _, _, h, _, _, _ => by simp at h
  | j :: js, e :: es, ks, ds, us, vs, hj, he, hl, hd => by
    obtain ⟨v, vs', rfl, q, qs⟩ := Dens.cons.mp he
    obtain ⟨us1, h1, h2, h3⟩ := dput_zip (g := kk) (fun _ _ => kk_inj) q (ks := ks) (ds := ds) (us := us) (k := j) hl hd
    obtain ⟨us2, h4, h5, h6⟩ := upd_zip (js := js) (es := es) (by simpa using hj) qs h2 h3
    refine ⟨us2, ?_, h5, h6⟩
    show mergeK (putK ((ks.map kk).zip us) (kk j) v) ((js.map kk).zip vs') = _
    rw [h1]
    exact h4
theorem mt_update_ok {x y : Val} {st st' : Sto} {v : Val} (h : mtV .update x [y] st = some (v, st')) : MtFact X cs .update x [y] st st' v := by
  unfold mtV at h
  split at h <;> try contradiction
  rename_i l js es _ he
  cases he
  split at h
  case h_2 => cases h
  rename_i ks ds hl
  split at h
  case isFalse => cases h
  rename_i hlen
  cases h
  have kl := kind_dK hl
  refine ⟨_, _, .inr (.inr ⟨kl, _, rfl⟩), mtd_update, by rw [kl]; exact F.plainAttrs_dict, by rw [kl]; exact F.slot_dict_update, F.type_dict_update, fun F B as env σ H u us Q r q p k => ?_⟩
  obtain ⟨a, ea, rfl⟩ := q
  obtain ⟨_, ho', e1, us', rfl, hl', hq⟩ := r.obj l a _ ea hl
  obtain ⟨w', rfl, qy⟩ := paired1 p
  obtain ⟨b, vs', rfl, hb, hlb, hqb⟩ := Den.dK_iff.mp qy
  obtain ⟨us2, h1, h2, h3⟩ := upd_zip hlb hqb hl' hq
  obtain ⟨r2, x2⟩ := r.toRSt.write (o' := .dK (updK ks ds js es).1 (updK ks ds js es).2) (ho := .dK (((updK ks ds js es).1.map kk).zip us2)) ea hl (by simp) ⟨us2, rfl, h2, h3⟩
  have hne : a ≠ b := fun e => by
    obtain ⟨z, _⟩ := r.obj l a _ ea hl
    have hF : F a = none := z.resolve_left (by simp)
    subst e
    rcases hb with hb | ⟨o, hb⟩ <;> rw [hF] at hb <;> cases hb
  refine ⟨a, b, _, _, rfl, rfl, e1, rd_mono r.fh hb, hne, ?_, by rw [h1]; exact k F _ _ (r.slots x2 r2) x2 vnon⟩
  rw [List.length_zip, List.length_zip, List.length_map, List.length_map, ← line_eq]
  have := hq.length
  have := hqb.length
  omega
end
end NK
set_option Elab.async false
set_option linter.all false
set_option autoImplicit false
set_option maxRecDepth 100000
set_option maxHeartbeats 4000000
/-! NkL5: sets of texts, made of a tuple or list, and sorted. -/
namespace NK
open PySem PySem.Spec PyProof.Rows L2
/-- a text's entry in a set -/
def entW (w : World) (q : Str × Tok) : Int × Value := (hashStr w q.1, .str q.1 q.2)
structure TxP (w : World) (es : Array (Int × Value)) (t : SetTable) (ks : List Str) : Prop where
  pm : ∃ qs : List (Str × Tok), es.toList.Perm (qs.map (entW w)) ∧ qs.map (·.1) = ks
  nd : ks.Nodup
  bd : es.size < scanBound
  fit : t.fits es.size = true
  ris : Ris t.place.toList
  led : w.params.followText "set-order" = true ∨ t.led = true
def TxS (w : World) (h : Heap) (a : Addr) (ks : List Str) : Prop := ∃ o es ep t, h.get? a = some o ∧ o.ExactSet ∧ o.data = .set es ep t ∧ TxP w es t ks
section
variable {P : Program} {w : World} {A : Around} {E : Value → Shared → Prop} {s : Shared} {a : Addr} {ks : List Str}
theorem ent_is (k : Str) (q : Str × Tok) : (strKind P w).is k (entW w q).2 = true ↔ q.1 = k := by
  show Value.isStrOf k (.str q.1 q.2) = true ↔ _
  simp [Value.isStrOf]
theorem TxP.size {es : Array (Int × Value)} {t : SetTable} (F : TxP w es t ks) : es.size = ks.length := by
  obtain ⟨qs, h1, h2⟩ := F.pm
  rw [← Array.length_toList, h1.length_eq, List.length_map, ← h2, List.length_map]
theorem TxP.elems {es : Array (Int × Value)} {t : SetTable} (F : TxP w es t ks) : ElemsOf (strKind P w) es.toList := fun e he => by
  obtain ⟨qs, h1, h2⟩ := F.pm
  obtain ⟨q, _, rfl⟩ := List.mem_map.mp (h1.mem_iff.mp he)
  exact ⟨⟨q.1, (ent_is q.1 q).mpr rfl, rfl⟩, rfl⟩
theorem TxP.has {es : Array (Int × Value)} {t : SetTable} (F : TxP w es t ks) (k : Str) : k ∈ ks ↔ ∃ e ∈ es.toList, (strKind P w).is k e.2 = true := by
  obtain ⟨qs, h1, h2⟩ := F.pm
  rw [← h2]
  constructor
  · intro h
    obtain ⟨q, hq, e⟩ := List.mem_map.mp h
    exact ⟨entW w q, h1.mem_iff.mpr (List.mem_map.mpr ⟨q, hq, rfl⟩), (ent_is k q).mpr e⟩
  · rintro ⟨e, he, h⟩
    obtain ⟨q, hq, rfl⟩ := List.mem_map.mp (h1.mem_iff.mp he)
    exact List.mem_map.mpr ⟨q, hq, (ent_is k q).mp h⟩
theorem TxS.at {h h' : Heap} (R : TxS w h a ks) (k : ∀ o, h.get? a = some o → h'.get? a = some o) : TxS w h' a ks := by
  obtain ⟨o, es, ep, t, ho, r⟩ := R
  exact ⟨o, es, ep, t, k o ho, r⟩
theorem put_at {h : Heap} {o : PySem.Obj} {es es' : Array (Int × Value)} {ep : Nat} {t t' : SetTable} (ho : h.get? a = some o) (hd : o.data = .set es ep t) : (h.update a (Obj.putSet es' t')).get? a = some { o with data := .set es' (ep + 1) t' } := L2.store_at ho hd
/-- behind the look-up of a new text: the entry is stored, the table may grow -/
theorem txs_tail {g : Bool → Sem Unit} (hg : ∀ (b : Bool) (s₁ : Shared) (Q' : Unit → Shared → Prop), Q' () s₁ → wpAny (model P w) A (g b) Q' E s₁)
    {o : PySem.Obj} {es : Array (Int × Value)} {ep : Nat} {t : SetTable} (ho : s.heap.get? a = some o) (hex : o.ExactSet) (hd : o.data = .set es ep t)
    {es1 : Array (Int × Value)} {t2 : SetTable} (F : TxP w es1 t2 ks) {wasDummy : Bool} {R : Option Bool → Shared → Prop}
    (hR : ∀ h', Heap.SameBut a s.heap h' → TxS w h' a ks → R (some true) { s with heap := h' }) :
    wpAny (model P w) A (do
        storeSet a es1 t2
        if (!wasDummy && t2.tooFull) = true then do
            g (relayAll t2 es1 (SetTable.grown es1.size)).2.2
            storeSet a (relayAll t2 es1 (SetTable.grown es1.size)).1 (relayAll t2 es1 (SetTable.grown es1.size)).2.1
            pure (some true)
          else pure (some true)) R E s := by
  have z1 := put_at (es' := es1) (t' := t2) ho hd
  have b1 := Heap.SameBut.update s.heap a (Obj.putSet es1 t2)
  refine wpAny_bind (wpAny_storeSet_of ho hd ?_ (fits_of_scanBound F.bd))
  by_cases hc : (!wasDummy && t2.tooFull) = true
  · rw [if_pos hc]
    have q1 := relayAll_perm t2 es1 (SetTable.grown es1.size)
    have q2 := relayAll_fits t2 es1 (SetTable.grown es1.size)
    have q3 := L2.relayAll_ris t2 es1 (SetTable.grown es1.size)
    have q4 := L2.relayAll_led t2 es1 (SetTable.grown es1.size)
    revert q1 q2 q3 q4
    generalize relayAll t2 es1 (SetTable.grown es1.size) = Z
    intro q1 q2 q3 q4
    obtain ⟨es2, t3, gave⟩ := Z
    have n2 : es2.size = es1.size := by
      have := q1.length_eq
      rwa [Array.length_toList, Array.length_toList] at this
    have F2 : TxP w es2 t3 ks := by
      obtain ⟨qs, u1, u2⟩ := F.pm
      exact ⟨⟨qs, q1.trans u1, u2⟩, F.nd, by rw [n2]; exact F.bd, q2, q3, F.led.imp id fun z => q4.trans z⟩
    refine wpAny_bind (hg _ _ _ (wpAny_bind (wpAny_storeSet_of z1 rfl (wpAny_pure (hR _ (b1.trans (Heap.SameBut.update _ a _)) ⟨_, es2, _, t3, put_at z1 rfl, hex, rfl, F2⟩)) (fits_of_scanBound F2.bd))))
  · rw [if_neg hc]
    exact wpAny_pure (hR _ b1 ⟨_, es1, _, t2, z1, hex, rfl, F⟩)
/-- a text is added -/
theorem txs_add {k : Str} {tk : Tok} {Q : Bool → Shared → Prop} (R : TxS w s.heap a ks) (room : ks.length + 1 < scanBound)
    (hQ : ∀ b h', Heap.SameBut a s.heap h' → TxS w h' a (if k ∈ ks then ks else k :: ks) → Q b { s with heap := h' }) :
    wpAny (model P w) A (setAddHashed a (.str k tk) ((strKind P w).hash k)) Q E s := by
  obtain ⟨o, es, ep, t, ho, hex, hd, F⟩ := R
  have hkey : (strKind P w).is k (.str k tk) = true := (ent_is (P := P) (w := w) k (k, tk)).mpr rfl
  have hsc : (Value.str k tk).scannable = true := rfl
  have hel := F.elems (P := P)
  unfold setAddHashed setAddHashedIn
  refine wpAny_holding (wpAny_bind (wpAny_setState_of ho hd F.fit ?_))
  dsimp only
  rw [byScan_of hsc F.bd hel]
  simp only [↓reduceIte]
  unfold setAddByScan
  refine wpAny_bind (wpAny_bind (wpAny_rule (wpAny_bind (wpAny_setScan_of hkey ho hd F.fit hel ?_))))
  cases hfi : List.findIdx? (fun e => (strKind P w).is k e.2) es.toList with
  | some j =>
    dsimp only
    obtain ⟨hj, pj, _⟩ := List.findIdx?_eq_some_iff_getElem.mp hfi
    have hk : k ∈ ks := (F.has (P := P) k).mpr ⟨es.toList[j], List.getElem_mem hj, pj⟩
    exact wpAny_pure (wpAny_pure (hQ _ s.heap (Heap.SameBut.refl a s.heap) (by rw [if_pos hk]; exact ⟨o, es, ep, t, ho, hex, hd, F⟩)))
  | none =>
    dsimp only
    have hk : k ∉ ks := fun z => by
      obtain ⟨e, he, q⟩ := (F.has (P := P) k).mp z
      have c := List.findIdx?_eq_none_iff.mp hfi e he
      rw [q] at c
      cases c
    have way : ∀ (b : Bool) {s₁ : Shared} {Q' : Unit → Shared → Prop}, Q' () s₁ → wpAny (model P w) A (match b with | true => rule "set.scan.the-table-gave-way" | false => pure ()) Q' E s₁ :=
      fun b s₁ Q' q => by cases b <;> first | exact wpAny_pure q | exact wpAny_rule q
    have p1 := layNew_perm t es ((strKind P w).hash k) (.str k tk)
    have p2 := layNew_fits t es ((strKind P w).hash k) (.str k tk)
    have p3 := L2.layNew_ris t es ((strKind P w).hash k) (.str k tk) F.ris
    have p4 := L2.layNew_led t es ((strKind P w).hash k) (.str k tk)
    revert p1 p2 p3 p4
    generalize layNew t es ((strKind P w).hash k) (.str k tk) = Z
    intro p1 p2 p3 p4
    obtain ⟨es1, t1, wasDummy, gave⟩ := Z
    dsimp only at p1 p2 p3 p4 ⊢
    rw [Array.toList_push] at p1
    have pc : es1.toList.Perm (((strKind P w).hash k, Value.str k tk) :: es.toList) := p1.trans (List.perm_append_singleton _ _)
    have hsz : es1.size = ks.length + 1 := by rw [← Array.length_toList, pc.length_eq, List.length_cons, Array.length_toList, F.size]
    have mk : ∀ t' : SetTable, t'.fits es1.size = true → Ris t'.place.toList → (w.params.followText "set-order" = true ∨ t'.led = true) → TxP w es1 t' (k :: ks) := fun t' f1 f2 f3 => by
      obtain ⟨qs, u1, u2⟩ := F.pm
      exact ⟨⟨(k, tk) :: qs, pc.trans (u1.cons _), by rw [List.map_cons, u2]⟩, List.nodup_cons.mpr ⟨hk, F.nd⟩, by rw [hsz]; exact room, f1, f2, f3⟩
    have hled : w.params.followText "set-order" = true ∨ t1.led = true := F.led.imp id fun z => p4.trans z
    have fin : ∀ h', Heap.SameBut a s.heap h' → TxS w h' a (k :: ks) → Q true { s with heap := h' } := fun h' sb r => hQ true h' sb (by rw [if_neg hk]; exact r)
    have soft : ∀ (b : Bool) (s₁ : Shared) (Q' : Unit → Shared → Prop), Q' () s₁ → wpAny (model P w) A (match b with | true => rule "set.scan.the-table-gave-way" | false => pure ()) Q' E s₁ := fun b s₁ Q' q => way b q
    refine wpAny_bind (way _ ?_)
    split
    · rw [hashByValue_scannable 8 hsc]
      refine wpAny_bind (wpAny_pure ?_)
      refine txs_tail ?_ ho hex hd (mk _ ?_ ?_ ?_) ?_
      · intro b s₁ Q' q
        cases b <;> first | exact wpAny_pure q | exact wpAny_rule q
      · first | exact SetTable.fits_plain_off p2 | (split <;> first | exact p2 | exact SetTable.fits_plain_off p2)
      · first | exact p3 | (split <;> exact p3)
      · first | exact hled | (split <;> exact hled)
      · intro h' sb r
        dsimp only
        exact wpAny_pure (fin h' sb r)
    · refine wpAny_bind (wpAny_pure ?_)
      simp only [↓reduceIte]
      refine txs_tail ?_ ho hex hd (mk t1 p2 p3 hled) ?_
      · intro b s₁ Q' q
        cases b <;> first | exact wpAny_pure q | exact wpAny_rule q
      · intro h' sb r
        exact wpAny_pure (fin h' sb r)
/-- what is there behind i items -/
def seen : List Str → List Str
  | [] => []
  | k :: ks => if k ∈ seen ks then seen ks else k :: seen ks
theorem seen_mem {k : Str} : ∀ ks : List Str, k ∈ seen ks ↔ k ∈ ks
  | [] => Iff.rfl
  | x :: ks => by
    have ih := seen_mem (k := k) ks
    unfold seen
    split
    · rename_i h
      rw [ih, List.mem_cons]
      exact ⟨.inr, fun z => z.elim (fun e => by rw [e]; exact (seen_mem ks).mp h) id⟩
    · rw [List.mem_cons, List.mem_cons, ih]
theorem seen_len : ∀ ks : List Str, (seen ks).length ≤ ks.length
  | [] => Nat.le_refl _
  | x :: ks => by
    have := seen_len ks
    unfold seen
    split
    · rw [List.length_cons]; omega
    · rw [List.length_cons, List.length_cons]; omega
theorem txs_loop {I : Addr} {fp wr : List Addr} {G : Array GenState → Array GenState → Prop} {n : Nat} {Pv : Nat → Value → Prop} {St : Nat → Shared → Prop} {R : Result → Shared → Prop}
    (W : WalksS P w A.in1 I fp wr G n Pv St) (S : Addr) (hSf : S ∉ fp) (ns : List Str) (hn : n = ns.length) (hb : ns.length + 1 < scanBound) (hval : ∀ i v, Pv i v → ∃ k t, ns[i]? = some k ∧ v = .str k t)
    (fin : ∀ s s', Moved (S :: wr) G s s' → TxS w s'.heap S (seen ns.reverse) → R (.ok (.ret .none)) s' → True) :
    ∀ (k i : Nat) (s : Shared), n - i = k → i ≤ n → St i s → TxS w s.heap S (seen (ns.take i).reverse) →
      (∀ s', Moved (S :: wr) G s s' → TxS w s'.heap S (seen ns.reverse) → R (.ok (.ret .none)) s') →
      codeAny (model P w) A (.builtin "set.update.loop" ⟨[.ref S, .ref I], []⟩) R s
  | 0, i, s, hk', hi, hst, hS, hR => by
    obtain rfl : i = n := by omega
    have nw : S ∉ wr := fun h => hSf (W.sub _ h)
    refine codeAny_builtin F.entry_set_update_loop ?_
    rw [Around.under_plainId F.plain_set_update_loop _]
    show wpAny _ A.in1 (pyNext (.ref I) >>= _) _ _ s
    refine wpAny_bind (W.done s _ _ hst fun s' hm => ?_)
    show wpAny _ A.in1 (ret Value.none) _ _ s'
    rw [List.take_of_length_le (by omega)] at hS
    exact wpAny_pure (hR s' (hm.mono fun b hb => List.mem_cons_of_mem _ hb) (hS.at fun o e => hm.heap S o nw e))
  | k + 1, i, s, hk', hi, hst, hS, hR => by
    have hlt : i < n := by omega
    have nw : S ∉ wr := fun h => hSf (W.sub _ h)
    have sub : ∀ b ∈ wr, b ∈ S :: wr := fun b hb => List.mem_cons_of_mem _ hb
    refine codeAny_builtin F.entry_set_update_loop ?_
    rw [Around.under_plainId F.plain_set_update_loop _]
    show wpAny _ A.in1 (pyNext (.ref I) >>= _) _ _ s
    refine wpAny_bind (W.item i s _ _ hlt hst fun v s' hP hst' hm => ?_)
    obtain ⟨z, t, hz, rfl⟩ := hval i v hP
    have hS' : TxS w s'.heap S (seen (ns.take i).reverse) := hS.at fun o e => hm.heap S o nw e
    show wpAny _ A.in1 (holding [Value.str z t] (setAdd S (.str z t)) >>= _) _ _ s'
    refine wpAny_bind (wpAny_holding ?_)
    unfold setAdd
    refine wpAny_holding (wpAny_bind ((strKind P w).pyHash (k := z) ((ent_is (P := P) (w := w) z (z, t)).mpr rfl) ?_))
    have room : (seen (ns.take i).reverse).length + 1 < scanBound := by
      have h1 := seen_len (ns.take i).reverse
      rw [List.length_reverse, List.length_take] at h1
      omega
    refine txs_add (s := { s' with toks := s'.toks + 1 }) hS' room fun b h' hsb hS2 => ?_
    have hS3 : TxS w h' S (seen (ns.take (i + 1)).reverse) := by
      rw [List.take_add_one, hz, Option.toList_some, List.reverse_append, List.reverse_singleton, List.singleton_append]
      unfold seen
      exact hS2
    refine wpAny_pure ⟨plainId_quiet F.plain_set_update_loop _, txs_loop W S hSf ns hn hb hval fin k (i + 1) _ (by omega) hlt (W.frame _ s' _ _ hst' (Nat.le_succ _) fun b hb o e => ?_) hS3 fun s'' hm'' hS'' => ?_⟩
    · rw [hsb.2 b (fun h : b = S => hSf (by rw [← h]; exact hb))]; exact e
    · refine hR s'' (Moved.trans W.gtrans ((hm.mono sub).then_heap (Nat.le_succ _) fun b o hb e => ?_) hm'') hS''
      rw [hsb.2 b (fun h : b = S => hb (by rw [h]; exact List.mem_cons_self))]; exact e
abbrev newSet (w : World) : PySem.Obj := { cls := .type "set", dict := none, data := .set #[] 0 (.fresh 0 0 (!w.params.followText "set-order")) }
theorem txs_new {h : Heap} (ho : h.get? a = some (newSet w)) : TxS w h a (seen ([] : List Str).reverse) :=
  ⟨_, #[], 0, _, ho, ⟨rfl, rfl, rfl⟩, rfl, ⟨⟨[], List.Perm.refl _, rfl⟩, List.nodup_nil, by decide, rfl, List.Pairwise.nil, by
    show _ ∨ (!w.params.followText "set-order") = true
    cases w.params.followText "set-order" <;> simp⟩⟩
theorem sts_at : ∀ {us : List Value} {xs : List Str}, StrsAre us xs → ∀ (i : Nat) (v : Value), us[i]? = some v → ∃ k t, xs[i]? = some k ∧ v = .str k t
  | _, _, .nil, i, v, h => by simp at h
  | _, _, .cons n t hr, 0, v, h => by
    simp at h
    exact ⟨n, t, rfl, h.symm⟩
  | _, _, .cons n t hr, i + 1, v, h => by
    obtain ⟨k, t', a, b⟩ := sts_at hr i v (by simpa using h)
    exact ⟨k, t', by simpa using a, b⟩
set_option maxRecDepth 100000 in
/-- set(xs), xs a tuple of texts -/
theorem txs_make {l : Addr} {items : Array Value} {ns : List Str} {Q : Value → Shared → Prop} (hh : A.handled = none) (hl : s.heap.IsTuple l items) (hit : StrsAre items.toList ns) (hb : ns.length + 1 < scanBound)
    (h : ∀ (h' : Heap) (tk : Nat), TxS w h' s.heap.objs.size (seen ns.reverse) → (∀ b o, s.heap.get? b = some o → h'.get? b = some o) → Q (.ref s.heap.objs.size) { s with heap := h', toks := tk }) :
    wpAny (model P w) A (PySem.call (.type "set") [.ref l]) Q E s := by
  have hisz : items.size = ns.length := by
    have q := StrsAre.len_eq hit
    rw [Array.length_toList] at q
    exact q
  obtain ⟨c, tl, hmro⟩ := F.called_set.mro
  have hmade := F.called_set.made
  have hsub := F.called_set.sub
  refine wpAny_call (codeAny_of_tree ?_)
  show wpAny _ _ (callAny (.type "set") _) _ _ _
  refine wpAny_pure ⟨Code.quiet_builtin _ (by decide +kernel), codeAny_builtin F.entry_type_call ?_⟩
  rw [Around.under_plain (weight_type_call_type "set" [.ref l] []) rfl]
  have h1 := F.called_set.notType
  have h2 := F.called_set.canCreate
  have hct := F.typeCall_set_1 (.ref l)
  repeat (any_goals (first | assumption | wp_step))
  refine codeAny_mono (L2.code_set_led1 (.ref l) (E := E) (Q₁ := fun obj s₁ => obj = .ref s.heap.objs.size ∧ s₁ = { s with heap := s.heap.push (newSet w) }) ⟨rfl, rfl⟩) fun r s₁ hr => ?_
  match r, hr with
  | .error e, hr => exact hr
  | .ok .next, hr => exact hr.elim
  | .ok .brk, hr => exact hr.elim
  | .ok .cont, hr => exact hr.elim
  | .ok (.ret obj), hr =>
    obtain ⟨rfl, rfl⟩ := hr
    have hS : (s.heap.push (newSet w)).get? s.heap.objs.size = some (newSet w) := Heap.get?_push_size _ rfl
    have hT : Shared.TypeIs { s with heap := s.heap.push (newSet w) } (.ref s.heap.objs.size) "set" := ⟨_, hS, rfl⟩
    have hli := F.called_set.init.lookup
    have hbi := F.called_set.init.bind (.ref s.heap.objs.size)
    repeat (any_goals (first | assumption | wp_step))
    refine codeAny_mono (codeAny_call_builtin (R := wants (fun r s₂ => r = .none ∧ ∃ h' tk, s₂ = { s with heap := h', toks := tk } ∧ TxS w h' s.heap.objs.size (seen ns.reverse) ∧ (∀ b o, s.heap.get? b = some o → h'.get? b = some o)) E) F.called_set.init.plain F.entry_set_init (check_set_init_1 hT ?_)) fun r₂ s₂ hr₂ => ?_
    · obtain ⟨⟨ocls, odict, odata, oslots⟩, hol, hcl, nl, hdl⟩ := hl
      simp only at hcl hdl
      subst hcl; subst hdl
      have hol' := Heap.get?_push_of_some (newSet w) hol
      have hlS : l < s.heap.objs.size := Heap.lt_size hol
      have hsls := F.sub_tuple_set
      have hslf := F.sub_tuple_frozenset
      have hne : (Value.type "tuple" == Value.type "dict") = false := by decide
      have hl1 : (s.heap.push (newSet w)).IsTuple l items := ⟨_, hol', rfl, nl, rfl⟩
      have hz1 : (s.heap.push (newSet w)).objs.size = s.heap.objs.size + 1 := Heap.size_push ..
      have hneI : l ≠ (s.heap.push (newSet w)).objs.size := by rw [hz1]; exact Nat.ne_of_lt (Nat.lt_succ_of_lt hlS)
      have hSf : s.heap.objs.size ∉ [(s.heap.push (newSet w)).objs.size, l] := by
        rw [hz1]; simp only [List.mem_cons, List.not_mem_nil, or_false, not_or]
        exact ⟨Nat.ne_of_lt (Nat.lt_succ_self _), Nat.ne_of_gt hlS⟩
      unfold Builtin.«set.__init__» noKeywords Builtin.Frozenset.updateFrom
      generalize hPI : pyIter = PI
      wp_walk
      subst hPI
      refine wpAny_pyIter_tuple hl1 (wpAny_bind (wpAny_runValue ?_))
      refine txs_loop (A := A.in1.in1) ((Walks.tuple (by simp [hh]) _ l hneI items).toS) s.heap.objs.size hSf ns hisz hb (fun i v hv => sts_at hit i v (by rw [Array.getElem?_toList]; exact hv)) (fun _ _ _ _ _ => trivial) (items.size - 0) 0 _ (by omega) (Nat.zero_le _)
        ⟨⟨_, Heap.get?_push_size _ rfl, rfl, rfl⟩, (hl1.push _)⟩ ?hS0 ?hR
      case hS0 => exact txs_new (Heap.get?_push_of_some _ hS)
      case hR =>
        intro s' hm hS'
        obtain ⟨h', g2, d', tk', os'⟩ := s'
        obtain rfl : g2 = s.gens := hm.gens
        obtain rfl : d' = s.drawn := hm.drawn
        obtain rfl : os' = s.os := hm.os
        show wpAny _ _ _ _ _ _
        refine wpAny_pure ?_
        show wpAny _ _ (ret Value.none) _ _ _
        refine wpAny_pure ⟨rfl, h', tk', rfl, hS', fun b o e => ?_⟩
        have hb0 := Heap.lt_size e
        refine hm.heap b o (fun hmem => ?_) (Heap.get?_push_of_some _ (Heap.get?_push_of_some _ e))
        rw [hz1] at hmem
        simp only [List.mem_cons, List.not_mem_nil, or_false] at hmem
        rcases hmem with z | z
        · exact absurd hb0 (by rw [z]; exact Nat.lt_irrefl _)
        · exact absurd hb0 (by rw [z]; exact Nat.not_lt_of_le (Nat.le_succ _))
    · match r₂, hr₂ with
      | .error e, hr₂ => exact hr₂
      | .ok .next, hr₂ => exact hr₂.elim
      | .ok .brk, hr₂ => exact hr₂.elim
      | .ok .cont, hr₂ => exact hr₂.elim
      | .ok (.ret r), hr₂ =>
        obtain ⟨rfl, h', tk, rfl, hS', hk'⟩ := hr₂
        repeat (any_goals (first | assumption | wp_step))
        exact h _ _ hS' hk'
set_option maxRecDepth 100000 in
/-- set(xs), xs a list of texts -/
theorem txs_makeL {l : Addr} {items : Array Value} {ns : List Str} {Q : Value → Shared → Prop} (hh : A.handled = none) (hl : s.heap.IsList l items) (hit : StrsAre items.toList ns) (hb : ns.length + 1 < scanBound)
    (h : ∀ (h' : Heap) (tk : Nat), TxS w h' s.heap.objs.size (seen ns.reverse) → (∀ b o, s.heap.get? b = some o → h'.get? b = some o) → Q (.ref s.heap.objs.size) { s with heap := h', toks := tk }) :
    wpAny (model P w) A (PySem.call (.type "set") [.ref l]) Q E s := by
  have hisz : items.size = ns.length := by
    have q := StrsAre.len_eq hit
    rw [Array.length_toList] at q
    exact q
  obtain ⟨c, tl, hmro⟩ := F.called_set.mro
  have hmade := F.called_set.made
  have hsub := F.called_set.sub
  refine wpAny_call (codeAny_of_tree ?_)
  show wpAny _ _ (callAny (.type "set") _) _ _ _
  refine wpAny_pure ⟨Code.quiet_builtin _ (by decide +kernel), codeAny_builtin F.entry_type_call ?_⟩
  rw [Around.under_plain (weight_type_call_type "set" [.ref l] []) rfl]
  have h1 := F.called_set.notType
  have h2 := F.called_set.canCreate
  have hct := F.typeCall_set_1 (.ref l)
  repeat (any_goals (first | assumption | wp_step))
  refine codeAny_mono (L2.code_set_led1 (.ref l) (E := E) (Q₁ := fun obj s₁ => obj = .ref s.heap.objs.size ∧ s₁ = { s with heap := s.heap.push (newSet w) }) ⟨rfl, rfl⟩) fun r s₁ hr => ?_
  match r, hr with
  | .error e, hr => exact hr
  | .ok .next, hr => exact hr.elim
  | .ok .brk, hr => exact hr.elim
  | .ok .cont, hr => exact hr.elim
  | .ok (.ret obj), hr =>
    obtain ⟨rfl, rfl⟩ := hr
    have hS : (s.heap.push (newSet w)).get? s.heap.objs.size = some (newSet w) := Heap.get?_push_size _ rfl
    have hT : Shared.TypeIs { s with heap := s.heap.push (newSet w) } (.ref s.heap.objs.size) "set" := ⟨_, hS, rfl⟩
    have hli := F.called_set.init.lookup
    have hbi := F.called_set.init.bind (.ref s.heap.objs.size)
    repeat (any_goals (first | assumption | wp_step))
    refine codeAny_mono (codeAny_call_builtin (R := wants (fun r s₂ => r = .none ∧ ∃ h' tk, s₂ = { s with heap := h', toks := tk } ∧ TxS w h' s.heap.objs.size (seen ns.reverse) ∧ (∀ b o, s.heap.get? b = some o → h'.get? b = some o)) E) F.called_set.init.plain F.entry_set_init (check_set_init_1 hT ?_)) fun r₂ s₂ hr₂ => ?_
    · obtain ⟨⟨ocls, odict, odata, oslots⟩, hol, hcl, nl, hdl⟩ := hl
      simp only at hcl hdl
      subst hcl; subst hdl
      have hol' := Heap.get?_push_of_some (newSet w) hol
      have hlS : l < s.heap.objs.size := Heap.lt_size hol
      have hsls := F.sub_list_set
      have hslf := F.sub_list_frozenset
      have hne : (Value.type "list" == Value.type "dict") = false := by decide
      have hl1 : (s.heap.push (newSet w)).IsList l items := ⟨_, hol', rfl, nl, rfl⟩
      have hz1 : (s.heap.push (newSet w)).objs.size = s.heap.objs.size + 1 := Heap.size_push ..
      have hneI : l ≠ (s.heap.push (newSet w)).objs.size := by rw [hz1]; exact Nat.ne_of_lt (Nat.lt_succ_of_lt hlS)
      have hSf : s.heap.objs.size ∉ [(s.heap.push (newSet w)).objs.size, l] := by
        rw [hz1]; simp only [List.mem_cons, List.not_mem_nil, or_false, not_or]
        exact ⟨Nat.ne_of_lt (Nat.lt_succ_self _), Nat.ne_of_gt hlS⟩
      unfold Builtin.«set.__init__» noKeywords Builtin.Frozenset.updateFrom
      generalize hPI : pyIter = PI
      wp_walk
      subst hPI
      refine wpAny_pyIter_list hl1 (wpAny_bind (wpAny_runValue ?_))
      refine txs_loop (A := A.in1.in1) ((Walks.list (by simp [hh]) _ l hneI items).toS) s.heap.objs.size hSf ns hisz hb (fun i v hv => sts_at hit i v (by rw [Array.getElem?_toList]; exact hv)) (fun _ _ _ _ _ => trivial) (items.size - 0) 0 _ (by omega) (Nat.zero_le _)
        ⟨⟨_, Heap.get?_push_size _ rfl, rfl, rfl⟩, (hl1.push _)⟩ ?hS0 ?hR
      case hS0 => exact txs_new (Heap.get?_push_of_some _ hS)
      case hR =>
        intro s' hm hS'
        obtain ⟨h', g2, d', tk', os'⟩ := s'
        obtain rfl : g2 = s.gens := hm.gens
        obtain rfl : d' = s.drawn := hm.drawn
        obtain rfl : os' = s.os := hm.os
        show wpAny _ _ _ _ _ _
        refine wpAny_pure ?_
        show wpAny _ _ (ret Value.none) _ _ _
        refine wpAny_pure ⟨rfl, h', tk', rfl, hS', fun b o e => ?_⟩
        have hb0 := Heap.lt_size e
        refine hm.heap b o (fun hmem => ?_) (Heap.get?_push_of_some _ (Heap.get?_push_of_some _ e))
        rw [hz1] at hmem
        simp only [List.mem_cons, List.not_mem_nil, or_false] at hmem
        rcases hmem with z | z
        · exact absurd hb0 (by rw [z]; exact Nat.lt_irrefl _)
        · exact absurd hb0 (by rw [z]; exact Nat.not_lt_of_le (Nat.le_succ _))
    · match r₂, hr₂ with
      | .error e, hr₂ => exact hr₂
      | .ok .next, hr₂ => exact hr₂.elim
      | .ok .brk, hr₂ => exact hr₂.elim
      | .ok .cont, hr₂ => exact hr₂.elim
      | .ok (.ret r), hr₂ =>
        obtain ⟨rfl, h', tk, rfl, hS', hk'⟩ := hr₂
        repeat (any_goals (first | assumption | wp_step))
        exact h _ _ hS' hk'
theorem ents_strs : ∀ qs : List (Str × Tok), StrsAre (qs.map fun q => (entW w q).2) (qs.map (·.1))
  | [] => .nil
  | q :: qs => .cons q.1 q.2 (ents_strs qs)
theorem strs_perm {us vs : List Value} (p : us.Perm vs) : ∀ {xs : List Str}, StrsAre vs xs → ∃ ys, StrsAre us ys ∧ ys.Perm xs := by
  induction p with
  | nil => intro xs h; exact ⟨xs, h, List.Perm.refl _⟩
  | cons x p ih =>
    intro xs h
    cases h with
    | cons n t hr =>
      obtain ⟨ys, a, b⟩ := ih hr
      exact ⟨n :: ys, .cons n t a, b.cons n⟩
  | swap x y l =>
    intro xs h
    cases h with
    | cons n t hr =>
      cases hr with
      | cons n2 t2 hr2 => exact ⟨_, .cons n2 t2 (.cons n t hr2), List.Perm.swap _ _ _⟩
  | trans p q ih1 ih2 =>
    intro xs h
    obtain ⟨ys, a, b⟩ := ih2 h
    obtain ⟨zs, c, d⟩ := ih1 a
    exact ⟨zs, c, d.trans b⟩
/-- sorted(a set of texts) -/
theorem txs_sorted {Q : Value → Shared → Prop} (R : TxS w s.heap a ks) (hh : A.handled = none) (h64 : ks.length < 64)
    (hQ : ∀ s' p (out : Array Value) (c : Nat) (ys : List Str), (∀ b o, s.heap.get? b = some o → s'.heap.get? b = some o) → s'.gens = s.gens → s'.os = s.os → s.heap.objs.size ≤ p →
      s'.heap.get? p = some (seqObj "list" out c) → StrsAre out.toList ys → ys.Perm ks → sortedS ys = true → Q (.ref p) s') :
    wpAny (model P w) A (PySem.call (.builtin "sorted") [.ref a]) Q E s := by
  obtain ⟨o, es, ep, t, ho, hex, hd, F1⟩ := R
  obtain ⟨qs, u1, u2⟩ := F1.pm
  refine Calls.call_function_entry kind_sorted plain_sorted entry_sorted (args_sorted1 _) ?_
  unfold Builtin.«sorted»
  refine wpAny_bind (m := checkCount "sorted" 1 1 _) (wpAny_pure ?_)
  refine wpAny_bind (L2.collect_set (A := A.in1) hh ⟨o, ho, hex.1, hd⟩ F1.fit F1.bd F1.ris F1.led fun s1 vs k1 hz g1 o1 pm => ?_)
  have pv : vs.Perm (qs.map fun q => (entW w q).2) := by
    have := pm.trans (u1.map (·.2))
    rwa [List.map_map] at this
  obtain ⟨xs, hS, hp⟩ := strs_perm pv (ents_strs qs)
  rw [u2] at hp
  have hvl : vs.length = ks.length := by rw [StrsAre.len_eq hS, hp.length_eq]
  refine wpAny_bind (wpAny_newList ?_ (by rw [hvl, sizeLine_eq]; omega))
  have hoL : (s1.heap.push (seqObj "list" vs.toArray 0)).get? s1.heap.objs.size = some (seqObj "list" vs.toArray 0) := Heap.get?_push_size _ rfl
  refine wpAny_bind (wpAny_holding (wpAny_call_entry slot_list_sort ⟨_, hoL, rfl⟩ entry_list_sort
    (list_sort_treeK strKind_oneLt hoL hS.keysOf (fun v₁ v₂ rest e => keyKind_strs (by rw [← e]; exact hS)) (by rw [hvl]; exact h64) fun st' q1 q2 => ⟨_, rfl, ?_⟩) (args_list_sort _)))
  obtain ⟨ys, g3, g4, g5⟩ := sorted_out_str hS q1 q2
  obtain ⟨c, hc⟩ := sortedHeap_at (vs := vs) (out := (arrOf st').map (·.2)) hoL
  refine wpAny_pure ⟨_, rfl, hQ _ s1.heap.objs.size _ c ys (fun b u e => ?_) g1 o1 hz hc g3 (g4.trans hp) g5⟩
  have q := k1 b u e
  have hlt := Heap.lt_size q
  show (sortedHeap (s1.heap.push (seqObj "list" vs.toArray 0)) s1.heap.objs.size vs _).get? b = some u
  rw [sortedHeap_old (Nat.ne_of_lt hlt) (by rw [size_push']; exact Nat.lt_succ_of_lt hlt)]
  exact Heap.get?_push_of_some _ q
end
/-- the set of texts at a -/
def TxO (w : World) (a : Addr) (ks : List Str) : HO := .ext fun h => TxS w h a ks
theorem txO_new {w : World} {P : Program} {H : Hp} {h : Heap} {a : Addr} {ks : List Str} (R : TxS w h a ks) : ObjOk P w H h a (TxO w a ks) := by
  have ⟨o, _, _, _, ho, _⟩ := R
  exact ⟨R, ⟨o, ho⟩, fun h1 h2 p k => TxS.at p k⟩
section
variable {X : Cx}
theorem vals_strs : ∀ {ys : List Str} {us : List Value}, Vals (ys.map V.str) us → StrsAre us ys
  | [], _, .nil => .nil
  | y :: ys, _, .cons r t => by
    obtain ⟨k, rfl⟩ := r
    exact .cons y k (vals_strs t)
def rSetT (K : PySem.W.Frag) (w : World) : List V → Hp → VK → Prop := fun vs H Q => ∃ (a : Addr) (ns : List Str), vs = [V.ref a] ∧ (SqL K H a (ns.map V.str) ∨ SqT K H a (ns.map V.str)) ∧ ns.length ≤ 1000 ∧ ∀ p, H p = none → Q (.ref p) (upd H p (TxO w p (seen ns.reverse)))
theorem cr_setT (hc : X.calm = true) : CallR X (.type "set") (rSetT X.K X.w) := by
  intro pins s σ H xs us Q I r h
  obtain ⟨a, ns, rfl, hq, hl, q⟩ := h
  rw [Vals.ref1 r]
  have fin : ∀ (h' : Heap) (tk : Nat), TxS X.w h' s.heap.objs.size (seen ns.reverse) → (∀ b o, s.heap.get? b = some o → h'.get? b = some o) → EP X pins σ Q (.ref s.heap.objs.size) { s with heap := h', toks := tk } := fun h' tk R k =>
    ⟨.ref _, upd H s.heap.objs.size (TxO X.w s.heap.objs.size (seen ns.reverse)), I.laid (t' := tk) k (Nat.le_refl _) (txO_new R), rfl, q _ (I.hok.fresh (Nat.le_refl _))⟩
  have room : ns.length + 1 < scanBound := by
    have : (1001 : Nat) < scanBound := by decide
    omega
  rcases hq with hq | hq
  · obtain ⟨its, rv, pl, hz⟩ := I.list hq
    exact txs_makeL (I.ok.hd hc) pl.isList (vals_strs rv) room fin
  · obtain ⟨its, rv, pl, hz⟩ := I.tuple hq
    exact txs_make (I.ok.hd hc) pl (vals_strs rv) room fin
def rSortT (w : World) : List V → Hp → VK → Prop := fun vs H Q => ∃ (a : Addr) (ks : List Str), vs = [V.ref a] ∧ H a = some (TxO w a ks) ∧ ks.length < 64 ∧
  ∀ (ys : List Str) (p : Addr), ys.Perm ks → sortedS ys = true → H p = none → Q (.ref p) (upd H p (.lst (ys.map V.str)))
theorem cr_sortT (hc : X.calm = true) : CallR X (.builtin "sorted") (rSortT X.w) := by
  intro pins s σ H vs us Q I r h
  obtain ⟨a, ks, rfl, ha, h64, q⟩ := h
  have R : TxS X.w s.heap a ks := (I.hok a _ ha).1
  rw [Vals.ref1 r]
  refine txs_sorted R (I.ok.hd hc) h64 fun s' p out c ys k g o hp hg hi pm hs => ?_
  have hlen : (ys.map V.str).length ≤ sizeLine := by rw [List.length_map, pm.length_eq, sizeLine_eq]; omega
  have hn : H p = none := I.hok.fresh hp
  have J : Inv X pins σ (upd H p (.lst (ys.map V.str))) { s with heap := s'.heap, gens := s'.gens, drawn := s'.drawn, toks := s'.toks } :=
    I.call (ch := []) (Un.laid k hp hn) (I.hok.laid k hp ⟨hlen, out.toList, c, vals_of_strs hi, hg⟩) (by rw [g]; exact I.bare) (fun _ z => nomatch z)
  obtain ⟨h2, g2, d2, t2, o2⟩ := s'
  obtain rfl : o2 = s.os := o
  exact ⟨.ref p, _, J, rfl, q ys p pm hs hn⟩
end
end NK
set_option Elab.async false
set_option linter.all false
set_option autoImplicit false
set_option maxRecDepth 100000
/-! NkL6: sorted(set(e)). -/
namespace NK
open PySem PySem.Spec PyProof.Rows L2
theorem Ext.lay {F H : Hp} {as : List Addr} {p : Addr} {o : HO} (hp : H p = none) (ha : p ∉ as) (ht : ∀ a, a ∈ as → H a ≠ none) : Ext F as H F as (upd H p o) :=
  ⟨fun _ _ h => h, List.prefix_refl _, fun a y h _ => by rw [upd_ne (by intro e; rw [e, hp] at h; cases h)]; exact h, fun a h => by rw [upd_ne (by intro e; exact ha (e ▸ h))]; exact ht a h, fun a h h' => absurd h' h, fun a h h' => absurd h h'⟩
section
variable {X : Cx} {cs : Nat → Option Addr} {e : Expr} {f : Env → Sto → Option (Val × Sto)} {pos pos2 : Pos}
theorem seen_nodup : ∀ ks : List Str, (seen ks).Nodup
  | [] => List.nodup_nil
  | x :: ks => by
    unfold seen
    split
    · exact seen_nodup ks
    · rename_i h
      exact List.nodup_cons.mpr ⟨h, seen_nodup ks⟩
theorem S_nodup {ws : List W} (h : ws.Nodup) : (ws.map S).Nodup := by
  rw [List.nodup_iff_pairwise_ne] at *
  rw [List.pairwise_map]
  exact h.imp fun n e => n (S_inj e)
theorem mem_eraseDups {w : W} : ∀ {n : Nat} {ws : List W}, ws.length ≤ n → (w ∈ ws.eraseDups ↔ w ∈ ws)
  | _, [], _ => by simp
  | 0, x :: ws, h => by simp at h
  | n + 1, x :: ws, h => by
    rw [List.eraseDups_cons, List.mem_cons, List.mem_cons]
    have hl : (ws.filter fun b => !b == x).length ≤ n := Nat.le_trans (List.length_filter_le ..) (by simpa using h)
    rw [mem_eraseDups hl, List.mem_filter]
    by_cases hx : w = x
    · simp [hx]
    · simp [hx]
theorem nodup_eraseDups : ∀ {n : Nat} {ws : List W}, ws.length ≤ n → ws.eraseDups.Nodup
  | _, [], _ => by simp
  | 0, x :: ws, h => by simp at h
  | n + 1, x :: ws, h => by
    rw [List.eraseDups_cons]
    have hl : (ws.filter fun b => !b == x).length ≤ n := Nat.le_trans (List.length_filter_le ..) (by simpa using h)
    refine List.nodup_cons.mpr ⟨fun hm => ?_, nodup_eraseDups hl⟩
    rw [mem_eraseDups hl, List.mem_filter] at hm
    simp at hm
theorem seen_perm (ws : List W) : (seen (ws.map S).reverse).Perm (ws.eraseDups.map S) := by
  refine (List.perm_ext_iff_of_nodup (seen_nodup _) (S_nodup (nodup_eraseDups (Nat.le_refl _)))).mpr fun k => ?_
  rw [seen_mem, List.mem_reverse, List.mem_map, List.mem_map]
  exact ⟨fun ⟨w, h, e⟩ => ⟨w, (mem_eraseDups (Nat.le_refl _)).mpr h, e⟩, fun ⟨w, h, e⟩ => ⟨w, (mem_eraseDups (Nat.le_refl _)).mp h, e⟩⟩
def fSSet (f : Env → Sto → Option (Val × Sto)) : Env → Sto → Option (Val × Sto) := fun env st => (f env st).bind fun r => (biV .sset [r.1] r.2).map fun d => (.dat d, r.2)
theorem nst {x : Expr} {env : PySem.Env} (h : nStar x = true) : starEach [x] env = (false, eval x env) :: starEach [] env := noStar h
/-- sorted(set(e)) -/
theorem s_sset {p p2 : Pos} (hc : X.calm = true) (hg : Gl X "sorted") (hm : X.mg "sorted" = none) (hg2 : Gl X "set") (hm2 : X.mg "set" = none) (he : PE X e (tE X.K cs f)) (hs : nStar e = true) :
    PE X (.Call (.Name "sorted" p) [.Call (.Name "set" p2) [e] [] pos2] [] pos) (tE X.K cs (fSSet f)) := by
  have h1 : PE X (.Call (.Name "set" p2) [e] [] pos2) (tCB (rSetT X.K X.w) (tCons (tE X.K cs f) tNil)) := pe_callTy (T := "set") (cr_setT hc) hg2 hm2 (by decide +kernel) (pa_cons he pa_nil (nst hs)) (by decide) (by decide) (nst hs) rfl
  refine (pe_callB (id := "sorted") (cr_sortT hc) hg hm (by decide +kernel) (pa_cons h1 pa_nil) (by decide) (by decide) rfl rfl).weak fun σ H Q ⟨F, B, as, env, st, v, st', r, ev, k⟩ => ?_
  obtain ⟨⟨x, s1⟩, ex, ev1⟩ := obnd ev
  obtain ⟨d, hd, ev2⟩ := omap ev1
  clear ev ev1
  cases ev2
  refine ⟨F, B, as, env, st, x, s1, r, ex, fun F1 as1 H1 u r1 x1 v1 => ?_⟩
  simp only [biV] at hd
  obtain ⟨ds, hds, hd⟩ := obnd hd
  obtain ⟨ws, hws, hd⟩ := obnd hd
  split at hd
  case isFalse => cases hd
  rename_i hlen
  cases hd
  obtain ⟨a, us, rfl, ha, hq⟩ := asLT_ok r1.toRSt hds v1
  rw [textsD_ok hws hq] at ha
  refine ⟨a, ws.map S, rfl, by rw [List.map_map] at *; exact ha, by rw [List.length_map]; omega, fun p1 hp1 => ?_⟩
  have pF : F1 p1 = none := by
    cases q : F1 p1 with
    | none => rfl
    | some y => rw [r1.fh _ _ q] at hp1; cases hp1
  have pB : B p1 = none := by
    cases q : B p1 with
    | none => rfl
    | some y => rw [r1.bh _ _ q] at hp1; cases hp1
  have pas : p1 ∉ as1 := fun h => r1.toRSt.there p1 h hp1
  have pm := seen_perm ws
  have hl2 : (seen (ws.map S).reverse).length < 64 := by
    have := seen_len (ws.map S).reverse
    rw [List.length_reverse, List.length_map] at this
    omega
  refine ⟨p1, _, rfl, upd_same, hl2, fun ys t hy hs2 ht => ?_⟩
  rw [sorted_is (hy.trans pm) hs2]
  have r2 : Rel X.K cs F1 B as1 env s1 σ (upd H1 p1 (TxO X.w p1 (seen (ws.map S).reverse))) := r1.slots (Ext.lay hp1 pas r1.toRSt.there) (r1.toRSt.over pF pB pas)
  obtain ⟨r3, x3, v3⟩ := r2.put (d := .lst ((sortW ws.eraseDups).map .str)) (o := .lst (((sortW ws.eraseDups).map S).map V.str)) ht fun F2 hf h2 => Den.lst_iff.mpr ⟨t, _, rfl, h2, dens_texts _⟩
  exact k _ _ _ _ r3 ((x1.trans (Ext.lay hp1 pas r1.toRSt.there)).trans x3) v3
end
end NK
set_option Elab.async false
set_option linter.all false
set_option autoImplicit false
set_option maxRecDepth 100000
/-! NkM: a print is held against the program's text; what fits is sound. -/
namespace NK
open PySem PySem.Spec PyProof.Rows L2
/-- a class: its name and number, its instances' attributes, its methods (name, number, parameters), what makes it (number, arguments) -/
structure CI where
  name : Str
  idx : Nat
  attrs : List W
  ms : List (W × Nat × Nat)
  mkr : Option (Nat × Nat)
/-- a def's names by slot; functions (name, number, parameters); constants; built-ins that stand as they were; classes -/
structure MC where
  N : List Str
  fs : List (Str × Nat × Nat)
  gs : List (Str × K1)
  fr : List Str
  cl : List CI
/-- an attribute of the class -/
def atB (c : MC) (i : Nat) (x : W) : Bool := c.cl.any fun ci => ci.idx == i && ci.attrs.any fun y => decide (y = x)
/-- what makes an instance of the class of that name -/
def mkB (c : MC) (g : Nat) (y : Str) : Bool := c.cl.any fun ci => decide (ci.name = y) && (match ci.mkr with
  | some q => q.1 == g
  | none => false)
abbrev Nm := List (Str × NameKind)
def visB (nm : Nm) (x : Str) : Bool := match nm.lookup x with
  | some .local => true
  | some .cell => true
  | some .free => true
  | _ => false
def gloB (nm : Nm) (x : Str) : Bool := match nm.lookup x with
  | some .globalImplicit => true
  | _ => false
/-- a name that may be stored here -/
def locB (nm : Nm) (x : Str) : Bool := match nm.lookup x with
  | some .local => true
  | some .cell => true
  | _ => false
def plainN (x : Str) : Bool := decide ((x == ("__debug__" : Str)) = false) && decide ((x == ("__classdict__" : Str)) = false)
def gOk : D → K1 → Bool
  | .int i, .inl j => decide (i = j)
  | .str w, .inr v => decide (w = v)
  | _, _ => false
def relN (nm own : Nm) : Nm := own.map fun (n, k) => if (k == .free && nm.lookup n == some .cell) then (n, .cell) else (n, k)
def nSet : Expr → Bool
  | .Set _ _ _ => false
  | _ => true
/-- the comprehension's own names with their slots -/
def ownL (N : List Str) (own : List Nat) : List (Str × Nat) := own.filterMap fun i => (N[i]?).map fun x => (x, i)
def tgB (N : List Str) (nm : Nm) : List Nat → List Expr → Bool
  | [], [] => true
  | i :: is, .Name x _ :: xs => decide (N[i]? = some x) && locB nm x && tgB N nm is xs
  | _, _ => false
def tgtB (N : List Str) (nm : Nm) (tg : List Nat) (tup : Bool) (x : Expr) : Bool := match tup, tg, x with
  | false, [i], .Name y _ => decide (N[i]? = some y) && locB nm y
  | true, is, .Tuple xs _ _ => tgB N nm is xs
  | _, _, _ => false
def tyB : Ty → Str → Bool := fun t x => decide (x = tyN t)
def mtNo : Mt → Bool
  | .append => true | .pop => true | .popAt => true | .clear => true
  | _ => false
def tupI : I → Bool
  | .enum _ => true | .zip _ _ => true
  | _ => false
def isTupE : Expr → Bool
  | .Tuple _ _ _ => true
  | _ => false
def isMaxD (b : Bi) (es : List E) (zs : List Expr) : Bool := match b, es, zs with
  | .maxD, [_, _], [] => true
  | _, _, _ => false
/-- a call's arguments -/
def argsE : Expr → List Expr
  | .Call (.Name _ _) xs [] _ => xs
  | _ => []
/-- sorted(set(..)) -/
def isSset (c : MC) (b : Bi) (nm : Nm) (z : Expr) (zs : List Expr) : Bool := match b, z, zs with
  | .sset, .Call (.Name y _) [_] [] _, [] => decide (y = "set") && gloB nm y && (c.fr.any fun p => decide (p = y))
  | _, _, _ => false
mutual
/-- e is the expression x; t: as a test -/
def mE (c : MC) : E → Bool → Nm → Expr → Bool
  | .int i, _, _, x => match x with
    | .Constant (.int j) _ _ => decide (i = j)
    | _ => false
  | .bl b, _, _, x => match x with
    | .Constant (.bool j) _ _ => b == j
    | _ => false
  | .non, _, _, x => match x with
    | .Constant .none _ _ => true
    | _ => false
  | .str w, _, _, x => match x with
    | .Constant (.str s) _ _ => decide (s = S w)
    | _ => false
  | .var i, _, nm, x => match x with
    | .Name y _ => decide (c.N[i]? = some y) && visB nm y && plainN y
    | _ => false
  | .gl w d, _, nm, x => match x with
    | .Name y _ => gloB nm y && plainN y && c.gs.any fun p => decide (p.1 = y) && gOk d p.2
    | _ => false
  | .tup es, _, nm, x => match x with
    | .Tuple xs _ _ => mEs c es nm xs && decide (es.length ≤ 1000)
    | _ => false
  | .bin o a b, _, nm, x => match x with
    | .BinOp xa op xb _ => decide (op = opB o) && mE c a false nm xa && mE c b false nm xb
    | _ => false
  | .neg a, _, nm, x => match x with
    | .UnaryOp .USub xa _ => mE c a false nm xa
    | _ => false
  | .not a, t, nm, x => match x with
    | .UnaryOp .Not xa _ => mE c a t nm xa
    | _ => false
  | .and a b, t, nm, x => match x with
    | .BoolOp .And (xa :: xb :: r) p => mE c a t nm xa && mE c b t nm (match r with | [] => xb | _ => .BoolOp .And (xb :: r) p)
    | _ => false
  | .or a b, t, nm, x => match x with
    | .BoolOp .Or (xa :: xb :: r) p => mE c a t nm xa && mE c b t nm (match r with | [] => xb | _ => .BoolOp .Or (xb :: r) p)
    | _ => false
  | .cmp o a b, _, nm, x => match x with
    | .Compare xa [op] [xb] _ => decide (op = copB o) && mE c a false nm xa && mE c b false nm xb && !behindInMarks op xb
    | _ => false
  | .chain o o' a b e, _, nm, x => match x with
    | .Compare xa [p, q] [xb, xc] _ => decide (p = copB o) && decide (q = copB o') && mE c a false nm xa && mE c b false nm xb && mE c e false nm xc && !lastMarks [p, q] [xb, xc]
    | _ => false
  | .ite e a b, t, nm, x => match x with
    | .IfExp xe xa xb _ => !t && mE c e true nm xe && mE c a false nm xa && mE c b false nm xb
    | _ => false
  | .idx a i, _, nm, x => match x with
    | .Subscript xa xi _ => nSlice xi && mE c a false nm xa && mE c i false nm xi
    | _ => false
  | .slc a lo hi, _, nm, x => match x with
    | .Subscript xa (.Slice xl xh none _) _ => mE c a false nm xa && mP c lo nm xl && mP c hi nm xh
    | _ => false
  | .call f m es, _, nm, x => match x with
    | .Call (.Name y _) zs [] _ => gloB nm y && plainN y && (c.fs.any fun p => decide (p.1 = y) && p.2.1 == f) && mEs c es nm zs
    | _ => false
  | .callA f m es, _, nm, x => match x with
    | .Call (.Name y _) zs [] _ => gloB nm y && plainN y && (c.fs.any fun p => decide (p.1 = y) && p.2.1 == f) && mEs c es nm zs
    | _ => false
  | .bi b es, _, nm, x => match x with
    | .Call (.Name y _) (z :: zs) kws _ => decide (y = biN b) && gloB nm y && (c.fr.any fun p => decide (p = y)) && (match kws with
      | [] => (plainBi b && mEs c es nm (z :: zs)) || (isSset c b nm z zs && mEs c es nm (argsE z))
      | [⟨some a, k, _⟩] => decide (a = Str.ofString "default") && isMaxD b es zs && mEs c es nm [z, k]
      | _ => false)
    | _ => false
  | .mt m o es, _, nm, x => match x with
    | .Call (.Attribute xo y ap) xs [] p => decide (y = mtS m) && nSuper xo && (ap.endLine == p.line) && mE c o false nm xo && mEs c es nm xs && (match m, es with
      | .pop, [] => true | .clear, [] => true
      | .append, [_] => true | .popAt, [_] => true | .join, [_] => true | .update, [_] => true
      | .get, [_, _] => true | .pop2, [_, _] => true
      | _, _ => false)
    | _ => false
  | .isi a ts, _, nm, x => match x, ts with
    | .Call (.Name y _) [xa, .Name z _] [] _, [t] => decide (y = "isinstance") && decide (z = tyN t) && gloB nm y && gloB nm z && (c.fr.any fun p => decide (p = y)) && (c.fr.any fun p => decide (p = z)) && nStar xa && mE c a false nm xa
    | _, _ => false
  | .fz o, _, nm, x => mO c o nm x
  | .new o, _, nm, x => mO c o nm x
  | .attr k a w, _, nm, x => match x with
    | .Attribute xa f _ => decide (f = S w) && nSuper xa && mE c a false nm xa && atB c k w
    | _ => false
  | .meth k f w o es, _, nm, x => match x with
    | .Call (.Attribute xo y ap) xs [] p => decide (y = S w) && nSuper xo && (ap.endLine == p.line) && mE c o false nm xo && mEs c es nm xs && decide (es.length < 25) && (c.cl.any fun ci => ci.idx == k && ci.ms.any fun q => decide (q.1 = w) && q.2.1 == f)
    | _ => false
  | .make g es, _, nm, x => match x with
    | .Call (.Name y _) (z :: zs) [] _ => gloB nm y && plainN y && mEs c es nm (z :: zs) && mkB c g y
    | _ => false
def mEs (c : MC) : List E → Nm → List Expr → Bool
  | [], _, xs => match xs with
    | [] => true
    | _ => false
  | e :: es, nm, xs => match xs with
    | x :: xs => nStar x && mE c e false nm x && mEs c es nm xs
    | _ => false
def mP (c : MC) : Option E → Nm → Option Expr → Bool
  | none, _, x => match x with
    | none => true
    | _ => false
  | some e, nm, x => match x with
    | some x => mE c e false nm x
    | _ => false
def mC (c : MC) : Option E → Nm → List Expr → Bool
  | none, _, xs => match xs with
    | [] => true
    | _ => false
  | some e, nm, xs => match xs with
    | [x] => mE c e true nm x
    | _ => false
def mO (c : MC) : O → Nm → Expr → Bool
  | .lst es, nm, x => match x with
    | .List xs _ => mEs c es nm xs && decide (es.length ≤ 1000)
    | _ => false
  | .dic kvs, nm, x => match x with
    | .Dict ks vs _ => mKV c kvs nm ks vs && decide (ks.length ≤ 15)
    | _ => false
  | .dicT, nm, x => match x with
    | .Dict [] [] _ => true
    | _ => false
  | .comp elt tg tup it e own, nm, x => match x with
    | .ListComp xe [⟨xt, xi, ifs, 0⟩] sc p => nSet xi && (!tupI it || isTupE xt) && mI c it nm xi && decide ((ownL c.N own).map (·.2) = own) && blkC c.N ⟨.function, nm, false, false, []⟩ sc (ownL c.N own) && (tg.all fun i => own.contains i) &&
        tgtB c.N sc.names tg tup xt && mC c e (relN nm sc.names) ifs && mE c elt false (relN nm sc.names) xe
    | _ => false
  | .compP elt tg tup i e own, nm, x => match x with
    | .ListComp xe [⟨xt, .Name y py, ifs, 0⟩] sc p => decide (c.N[i]? = some y) && visB nm y && plainN y && decide ((ownL c.N own).map (·.2) = own) && blkC c.N ⟨.function, nm, false, false, []⟩ sc (ownL c.N own) && (tg.all fun i => own.contains i) &&
        tgtB c.N sc.names tg tup xt && mC c e (relN nm sc.names) ifs && mE c elt false (relN nm sc.names) xe
    | _ => false
  | .compD elt tg tup i e own, nm, x => match x with
    | .ListComp xe [⟨xt, .Name y py, ifs, 0⟩] sc p => decide (c.N[i]? = some y) && visB nm y && plainN y && decide ((ownL c.N own).map (·.2) = own) && blkC c.N ⟨.function, nm, false, false, []⟩ sc (ownL c.N own) && (tg.all fun i => own.contains i) &&
        tgtB c.N sc.names tg tup xt && mC c e (relN nm sc.names) ifs && mE c elt false (relN nm sc.names) xe
    | _ => false
  | .list a, nm, x => match x with
    | .Call (.Name y _) [xa] [] _ => decide (y = "list") && gloB nm y && (c.fr.any fun p => decide (p = y)) && nStar xa && mE c a false nm xa
    | _ => false
  | .dict a, nm, x => match x with
    | .Call (.Name y _) [xa] [] _ => decide (y = "dict") && gloB nm y && (c.fr.any fun p => decide (p = y)) && nStar xa && mE c a false nm xa
    | _ => false
  | .cut a lo hi, nm, x => match x with
    | .Subscript xa (.Slice xl xh none _) _ => mE c a false nm xa && mP c lo nm xl && mP c hi nm xh
    | _ => false
  | .cat a b, nm, x => match x with
    | .BinOp xa .Add xb _ => mE c a false nm xa && mE c b false nm xb
    | _ => false
  | .rep a b, nm, x => match x with
    | .BinOp xa .Mult xb _ => mE c a false nm xa && mE c b false nm xb
    | _ => false
  | .evn a, nm, x => match x with
    | .Subscript xa (.Slice none none (some (.Constant (.int i) _ _)) _) _ => decide (i = 2) && mE c a false nm xa
    | _ => false
def mKV (c : MC) : List E → Nm → List (Option Expr) → List Expr → Bool
  | [], _, ks, vs => ks.isEmpty && vs.isEmpty
  | k :: v :: r, nm, ks, vs => match ks, vs with
    | some xk :: ks, xv :: vs => mE c k false nm xk && mE c v false nm xv && mKV c r nm ks vs
    | _, _ => false
  | [_], _, _, _ => false
def mI (c : MC) : I → Nm → Expr → Bool
  | .e a, nm, x => mE c a false nm x
  | .rng es, nm, x => match x with
    | .Call (.Name y _) xs [] _ => decide (y = "range") && gloB nm y && (c.fr.any fun p => decide (p = y)) && mEs c es nm xs && (match xs with | [_] => true | [_, _] => true | [_, _, _] => true | _ => false)
    | _ => false
  | .enum a, nm, x => match x with
    | .Call (.Name y _) [xa] [] _ => decide (y = "enumerate") && gloB nm y && (c.fr.any fun p => decide (p = y)) && nStar xa && mE c a false nm xa
    | _ => false
  | .zip a b, nm, x => match x with
    | .Call (.Name y _) [xa, xb] [] _ => decide (y = "zip") && gloB nm y && (c.fr.any fun p => decide (p = y)) && nStar xa && nStar xb && mE c a false nm xa && mE c b false nm xb
    | _ => false
  | .rev a, nm, x => false
  | .revr es, nm, x => false
end
end NK
set_option Elab.async false
set_option linter.all false
set_option autoImplicit false
set_option maxRecDepth 100000
/-! NkN: what fits is sound: expressions. -/
namespace NK
open PySem PySem.Spec PyProof.Rows L2
structure XOk (c : MC) (cs : Nat → Option Addr) (C : Calls) (d : Nat) (X : Cx) (nm : Nm) : Prop where
  nms : X.env.scope.names = nm
  knd : X.env.scope.kind = .function
  nN : X.N = c.N
  nd : c.N.Nodup
  calm : X.calm = true
  un : X.A.units + 200 < cLine
  rm : Room d X.A
  fs : ∀ p ∈ c.fs, FnAt X cs d p.2.2 p.1 (C p.2.1) ∧ (∀ a s q, C p.2.1 a s = some q → a.length = p.2.2)
  gs : ∀ p ∈ c.gs, ∃ u, X.mg p.1 = some u ∧ RelV (k2V p.2) u
  fr : ∀ x ∈ c.fr, X.mg x = none
  cl : ∀ ci ∈ c.cl, (∃ Ca, cs ci.idx = some Ca ∧ Cls X.K Ca ∧ ∀ x ∈ ci.attrs, NoAttr X.K Ca (S x)) ∧ (∀ q ∈ ci.ms, MeAt X cs d q.2.2 ci.idx q.1 (C q.2.1) ∧ ∀ a s r, C q.2.1 a s = some r → a.length = q.2.2) ∧ ∀ q, ci.mkr = some q → MkAt X cs d q.2 ci.name (C q.1)
/-- e's print is sound; t: as a test -/
def Ok (cs : Nat → Option Addr) (X : Cx) (t : Bool) (x : Expr) (f : Env → Sto → Option (Val × Sto)) : Prop := match t with
  | true => PT X x (tB X.K cs fun env st => (f env st).bind boolR)
  | false => PE X x (tE X.K cs f)
section
variable {c : MC} {cs : Nat → Option Addr} {C : Calls} {d : Nat} {X : Cx} {nm : Nm}
theorem Ok.plain {t : Bool} {x : Expr} {f : Env → Sto → Option (Val × Sto)} (h : PE X x (tE X.K cs f)) (he : ∀ whole, isTrue x X.env whole = (do let v ← whole; standAt x.pos; holding [v] (truthy v))) : Ok cs X t x f := by
  cases t
  · exact h
  · exact s_val h he
theorem vis_of (o : XOk c cs C d X nm) {y : Str} (h : visB nm y = true) : Vis X.env.scope y := by
  unfold Vis
  rw [o.nms]
  unfold visB at h
  split at h
  · rename_i e; exact .inl e
  · rename_i e; exact .inr (.inl e)
  · rename_i e; exact .inr (.inr e)
  · cases h
theorem loc_of {sc : Scope} {y : Str} (h : locB sc.names y = true) : L2.Loc sc y := by
  unfold L2.Loc
  unfold locB at h
  split at h
  · rename_i e; exact .inl e
  · rename_i e; exact .inr e
  · cases h
theorem gl_of (o : XOk c cs C d X nm) {y : Str} (h : gloB nm y = true) : Gl X y := by
  unfold Gl Env.kindOf
  rw [o.nms]
  unfold gloB at h
  split at h
  · assumption
  · cases h
theorem plainN_of {y : Str} (h : plainN y = true) : (y == ("__debug__" : Str)) = false ∧ (y == ("__classdict__" : Str)) = false := by
  unfold plainN at h
  rw [Bool.and_eq_true, decide_eq_true_eq, decide_eq_true_eq] at h
  exact h
theorem any_fr (o : XOk c cs C d X nm) {y : Str} (h : (c.fr.any fun p => decide (p = y)) = true) : X.mg y = none := by
  obtain ⟨p, hp, e⟩ := List.any_eq_true.mp h
  rw [← of_decide_eq_true e]
  exact o.fr p hp
theorem relN_keep {nm : Nm} {x : Str} {k : NameKind} (hk : k ≠ .free) : ∀ {own : Nm}, own.lookup x = some k → (relN nm own).lookup x = some k
  | [], h => by simp at h
  | (n, k') :: r, h => by
    unfold relN
    rw [List.map_cons]
    rw [List.lookup_cons] at h
    split at h
    · rename_i hx
      cases h
      have e : (k == NameKind.free) = false := by cases k <;> first | rfl | exact absurd rfl hk
      simp only [e, Bool.false_and, Bool.false_eq_true, if_false]
      rw [List.lookup_cons, hx]
    · rename_i hx
      have ih := relN_keep (nm := nm) hk h
      have e : ∀ z : NameKind, ((n, z) :: relN nm r).lookup x = (relN nm r).lookup x := fun z => by rw [List.lookup_cons, hx]
      show (((if (k' == .free && nm.lookup n == some .cell) then (n, .cell) else (n, k')) : Str × NameKind) :: relN nm r).lookup x = some k
      split
      · rw [e]; exact ih
      · rw [e]; exact ih
theorem star_any {pos : Pos} {env : PySem.Env} : ∀ {es : List Expr}, es.all nStar = true → ((backTo pos (starEach es env)).any (·.1)) = false
  | [], _ => rfl
  | e :: es, h => by
    rw [List.all_cons, Bool.and_eq_true] at h
    rw [noStar h.1]
    unfold backTo
    rw [List.map_cons, List.any_cons]
    simp only [Bool.false_or]
    exact star_any h.2
theorem copB_in {o : COp} {e : Expr} (h : (!behindInMarks (copB o) e) = true) : behindInMarks (copB o) e = false := by simpa using h
theorem blk_ok (o : XOk c cs C d X nm) {s : Shared} {H : Hp} {scope : Scope} {Ca : Addr} {cl : List (Str × Addr)} {fp : List Addr} (hk : scope.kind = .function) : XOk c cs C d (X.blk s H scope (compEnvC scope cl Ca X.env) fp) (relN nm scope.names) := by
  refine ⟨?_, hk, o.nN, o.nd, o.calm, o.un, o.rm, fun p hp => ⟨⟨(o.fs p hp).1.ex⟩, (o.fs p hp).2⟩, o.gs, o.fr, fun ci hc => ⟨(o.cl ci hc).1, fun q hq => ⟨⟨((o.cl ci hc).2.1 q hq).1.ex⟩, ((o.cl ci hc).2.1 q hq).2⟩, (o.cl ci hc).2.2⟩⟩
  show (relabel scope X.env).names = relN nm scope.names
  have e : ∀ n, X.env.kindOf n = nm.lookup n := fun n => by unfold Env.kindOf; rw [o.nms]
  unfold relabel relN
  simp only [o.knd, e, show (ScopeKind.function == ScopeKind.function) = true from rfl, Bool.and_true]
theorem loc_of2 {X : Cx} {nm : Nm} (hl : ∀ y, nm.lookup y = some .local → X.env.scope.names.lookup y = some .local) (hf : ∀ y, nm.lookup y = some .cell → X.env.scope.names.lookup y = some .cell ∧ X.fn y = true) {y : Str} (h : locB nm y = true) : L2.Loc X.env.scope y ∧ (X.fn y = true ∨ X.env.scope.names.lookup y = some .local) := by
  unfold L2.Loc
  unfold locB at h
  split at h
  · rename_i e; exact ⟨.inl (hl y e), .inr (hl y e)⟩
  · rename_i e; exact ⟨.inr (hf y e).1, .inl (hf y e).2⟩
  · cases h
theorem tgB_ok {X : Cx} {nm : Nm} (hN : X.N.Nodup) (hl : ∀ y, nm.lookup y = some .local → X.env.scope.names.lookup y = some .local) (hf : ∀ y, nm.lookup y = some .cell → X.env.scope.names.lookup y = some .cell ∧ X.fn y = true) : ∀ {is : List Nat} {xs : List Expr}, tgB X.N nm is xs = true → PGs X xs (gNames is) ∧ (assignEach xs X.env).length = is.length ∧ (assignEach xs X.env).findIdx? (·.1) = none
  | [], [], _ => ⟨pgs_nil, rfl, rfl⟩
  | i :: is, [], h => by simp [tgB] at h
  | [], _ :: _, h => by simp [tgB] at h
  | i :: is, x :: xs, h => by
    cases x with
    | Name y p =>
      simp only [tgB, Bool.and_eq_true, decide_eq_true_eq] at h
      obtain ⟨⟨h1, h2⟩, h3⟩ := h
      obtain ⟨a, b, c⟩ := tgB_ok hN hl hf h3
      obtain ⟨l1, l2⟩ := loc_of2 hl hf h2
      refine ⟨pgs_cons (pg_name hN h1 l1 l2) a rfl, ?_, ?_⟩
      · show (_ :: assignEach xs X.env).length = _
        rw [List.length_cons, b]; rfl
      · show ((false, assign (.Name y p) X.env) :: assignEach xs X.env).findIdx? (·.1) = none
        rw [List.findIdx?_cons, c]
        rfl
    | _ => simp [tgB] at h
/-- the target's reading, the same whatever the context -/
def gTgt (K : PySem.W.Frag) (tg : List Nat) (tup : Bool) : TG := match tup, tg with
  | false, [i] => gName i
  | _, is => gTL K is
theorem tgt_ok2 {X : Cx} {cs : Nat → Option Addr} {nm : Nm} (hN : X.N.Nodup) (hc : X.calm = true) (hl : ∀ y, nm.lookup y = some .local → X.env.scope.names.lookup y = some .local) (hf : ∀ y, nm.lookup y = some .cell → X.env.scope.names.lookup y = some .cell ∧ X.fn y = true) {tg : List Nat} {tup : Bool} {x : Expr} (h : tgtB X.N nm tg tup x = true) :
    PG X x (gTgt X.K tg tup) ∧ TgOk X.K cs (gTgt X.K tg tup) (fun d e => bindT tg tup d e) tg := by
  unfold tgtB at h
  split at h
  · rename_i i y p
    simp only [Bool.and_eq_true, decide_eq_true_eq] at h
    obtain ⟨l1, l2⟩ := loc_of2 hl hf h.2
    exact ⟨pg_name hN h.1 l1 l2, tg_name⟩
  · rename_i is xs k p
    obtain ⟨a, b, c⟩ := tgB_ok hN hl hf h
    exact ⟨pg_tl hc a b c, tg_tup⟩
  · cases h
theorem relN_cell {nm : Nm} {x : Str} : ∀ {own : Nm}, (∀ y ∈ own, own.lookup y.1 = some y.2) → True := fun _ => trivial
theorem tgt_blk (o : XOk c cs C d X nm) {s : Shared} {H : Hp} {scope : Scope} {Ca : Addr} {cl : List (Str × Addr)} {fp : List Addr} (hk : scope.kind = .function) {tg : List Nat} {tup : Bool} {x : Expr} (h : tgtB c.N scope.names tg tup x = true) :
    PG (X.blk s H scope (compEnvC scope cl Ca X.env) fp) x (gTgt X.K tg tup) ∧ TgOk X.K cs (gTgt X.K tg tup) (fun d e => bindT tg tup d e) tg := by
  have ob := blk_ok o (s := s) (H := H) (scope := scope) (Ca := Ca) (cl := cl) (fp := fp) hk
  exact tgt_ok2 (X := X.blk s H scope (compEnvC scope cl Ca X.env) fp) (by rw [ob.nN]; exact ob.nd) ob.calm (nm := scope.names) (fun y e => by rw [ob.nms]; exact relN_keep (by decide) e) (fun y e => ⟨by rw [ob.nms]; exact relN_keep (by decide) e, by show (scope.names.lookup y == some .cell) = true; rw [e]; rfl⟩) (by rw [ob.nN]; exact h)
theorem blkC_names {N : List Str} {sc sc' scope : Scope} {own : List (Str × Nat)} (e : sc'.names = sc.names) (h : blkC N sc' scope own = true) : blkC N sc scope own = true := by
  unfold blkC at h ⊢
  rw [e] at h
  exact h
end
end NK
set_option Elab.async false
set_option linter.all false
set_option autoImplicit false
set_option maxRecDepth 100000
/-! NkO: the induction over the print. -/
namespace NK
open PySem PySem.Spec PyProof.Rows L2
section
variable {c : MC} {cs : Nat → Option Addr} {C : Calls} {d : Nat}
theorem s_one {X : Cx} {a : Expr} {op : BoolOp} {pos : Pos} {t : TE} (h : PE X a t) : PE X (.BoolOp op [a] pos) t := pe_one h
theorem pw_of {X : Cx} {op : BoolOp} {vs : List Expr} {pos : Pos} {t : TT} (h : PT X (.BoolOp op vs pos) t) : PW X (.BoolOp op vs pos) t := ⟨fun wh pins s σ H Q I q => h.run pins s σ H Q I q⟩
theorem pt_of {X : Cx} {op : BoolOp} {vs : List Expr} {pos : Pos} {t : TT} (h : PW X (.BoolOp op vs pos) t) : PT X (.BoolOp op vs pos) t := ⟨fun pins s σ H Q I q => h.run _ pins s σ H Q I q⟩
theorem fs_of {X : Cx} {nm : Nm} (o : XOk c cs C d X nm) {y : Str} {f : Nat} (h : (c.fs.any fun p => decide (p.1 = y) && p.2.1 == f) = true) : ∃ n, FnAt X cs d n y (C f) ∧ ∀ a s q, C f a s = some q → a.length = n := by
  obtain ⟨p, hp, e⟩ := List.any_eq_true.mp h
  rw [Bool.and_eq_true, decide_eq_true_eq, beq_iff_eq] at e
  obtain ⟨e1, e2⟩ := e
  have := o.fs p hp
  rw [e1, e2] at this
  exact ⟨_, this.1, this.2⟩
theorem evEs_len : ∀ {es : List E} {env : Env} {st st' : Sto} {vs : List Val}, evEs C es env st = some (vs, st') → vs.length = es.length
  | [], env, st, st', vs, h => by
    simp only [evEs] at h; cases h; rfl
  | e :: es, env, st, st', vs, h => by
    simp only [evEs] at h
    obtain ⟨r, h1, h⟩ := obnd h
    obtain ⟨q, h2, h⟩ := omap h
    cases h
    rw [List.length_cons, List.length_cons, evEs_len h2]
theorem mEs_star : ∀ {es : List E} {xs : List Expr} {nm : Nm}, mEs c es nm xs = true → xs.all nStar = true ∧ xs.length = es.length
  | [], [], _, _ => ⟨rfl, rfl⟩
  | [], _ :: _, _, h => by simp [mEs] at h
  | e :: es, [], _, h => by simp [mEs] at h
  | e :: es, x :: xs, nm, h => by
    simp only [mEs, Bool.and_eq_true] at h
    obtain ⟨a, b⟩ := mEs_star h.2
    exact ⟨by rw [List.all_cons, h.1.1, a]; rfl, by rw [List.length_cons, List.length_cons, b]⟩
theorem lim1000 {n : Nat} (h : n ≤ 1000) : n ≤ LIM := Nat.le_trans h (by decide)
theorem call_eq {f : Nat} {m : List Bool} {es : List E} : (fun env st => (fCallV C f m (evEs C es) env st).bind frz) = evE C (.call f m es) := by
  funext env st
  simp only [fCallV, evE, Option.bind_assoc]
  congr 1
theorem callA_eq {f : Nat} {m : List Bool} {es : List E} : (fun env st => (fCallV C f m (evEs C es) env st).bind own) = evE C (.callA f m es) := by
  funext env st
  simp only [fCallV, evE, Option.bind_assoc]
  congr 1
theorem isi_eq {a : E} {t : Ty} : fIsi t (evE C a) = evE C (.isi a [t]) := by
  funext env st
  simp only [fIsi, evE, anyTy]
  congr 1
  funext r
  congr 1
  funext q
  cases isTy q t <;> simp
theorem mE_one {e : E} {nm : Nm} {xs : List Expr} (h : mEs c [e] nm xs = true) : ∃ x, xs = [x] ∧ nStar x = true ∧ mE c e false nm x = true := by
  match xs, h with
  | [], h => simp [mEs] at h
  | [x], h =>
    simp only [mEs, Bool.and_eq_true] at h
    exact ⟨x, rfl, h.1.1, h.1.2⟩
  | _ :: _ :: _, h => simp [mEs] at h
theorem mE_two {e e' : E} {nm : Nm} {xs : List Expr} (h : mEs c [e, e'] nm xs = true) : ∃ x y, xs = [x, y] ∧ nStar x = true ∧ mE c e false nm x = true ∧ nStar y = true ∧ mE c e' false nm y = true := by
  match xs, h with
  | [], h => simp [mEs] at h
  | x :: xs, h =>
    rw [mEs] at h
    simp only [Bool.and_eq_true] at h
    obtain ⟨y, rfl, h3, h4⟩ := mE_one h.2
    exact ⟨x, y, rfl, h.1.1, h.1.2, h3, h4⟩
theorem nSet_of {X : Cx} {x : Expr} (h : nSet x = true) : ∀ v, foldedSetIterable x X.env v = pure v := fun v => by
  cases x <;> first | rfl | simp [nSet] at h
theorem at_of {X : Cx} {nm : Nm} (o : XOk c cs C d X nm) {k : Nat} {w : W} (h : atB c k w = true) : ∃ Ca, cs k = some Ca ∧ Cls X.K Ca ∧ NoAttr X.K Ca (S w) := by
  obtain ⟨ci, hc, e⟩ := List.any_eq_true.mp h
  rw [Bool.and_eq_true, beq_iff_eq] at e
  obtain ⟨rfl, e2⟩ := e
  obtain ⟨y, hy, e3⟩ := List.any_eq_true.mp e2
  rw [decide_eq_true_eq] at e3
  subst e3
  obtain ⟨⟨Ca, h1, h2, h3⟩, _⟩ := o.cl ci hc
  exact ⟨Ca, h1, h2, h3 y hy⟩
theorem ms_of {X : Cx} {nm : Nm} (o : XOk c cs C d X nm) {k f : Nat} {w : W} (h : (c.cl.any fun ci => ci.idx == k && ci.ms.any fun q => decide (q.1 = w) && q.2.1 == f) = true) : ∃ n, MeAt X cs d n k w (C f) ∧ ∀ a s r, C f a s = some r → a.length = n := by
  obtain ⟨ci, hc, e⟩ := List.any_eq_true.mp h
  rw [Bool.and_eq_true, beq_iff_eq] at e
  obtain ⟨rfl, e2⟩ := e
  obtain ⟨q, hq, e3⟩ := List.any_eq_true.mp e2
  rw [Bool.and_eq_true, decide_eq_true_eq, beq_iff_eq] at e3
  obtain ⟨rfl, rfl⟩ := e3
  exact ⟨_, ((o.cl ci hc).2.1 q hq).1, ((o.cl ci hc).2.1 q hq).2⟩
theorem mk_of {X : Cx} {nm : Nm} (o : XOk c cs C d X nm) {g : Nat} {y : Str} (h : mkB c g y = true) : ∃ n, MkAt X cs d n y (C g) := by
  obtain ⟨ci, hc, e⟩ := List.any_eq_true.mp h
  rw [Bool.and_eq_true, decide_eq_true_eq] at e
  obtain ⟨rfl, e2⟩ := e
  split at e2
  · rename_i q hq
    rw [beq_iff_eq] at e2
    subst e2
    exact ⟨_, (o.cl ci hc).2.2 q hq⟩
  · cases e2
theorem attr_eq {k : Nat} {a : E} {w : W} : fAttr k (evE C a) w = evE C (.attr k a w) := by
  funext env st; rfl
theorem meth_eq {k f : Nat} {w : W} {a : E} {es : List E} : fMeth k w (C f) (evE C a) (evEs C es) = evE C (.meth k f w a es) := by
  funext env st; rfl
theorem make_eq {g : Nat} {es : List E} : fMake (C g) (evEs C es) = evE C (.make g es) := by
  funext env st; rfl
theorem star_all {pos : Pos} {env : PySem.Env} : ∀ {es : List Expr}, es.all nStar = true → ((backTo pos (starEach es env)).all (!·.1)) = true
  | [], _ => rfl
  | e :: es, h => by
    rw [List.all_cons, Bool.and_eq_true] at h
    rw [noStar h.1]
    unfold backTo
    rw [List.map_cons, List.all_cons]
    simp only [Bool.not_false, Bool.true_and]
    exact star_all h.2
theorem maxD_eq {a b : E} : fMaxD (evE C a) (evE C b) = evE C (.bi .maxD [a, b]) := by
  funext env st
  simp only [fMaxD, evE, evEs]
  cases evE C a env st with
  | none => rfl
  | some r =>
    simp only [Option.bind_some]
    cases evE C b env r.2 with
    | none => rfl
    | some q => rfl
theorem mEs_one {e : E} {es : List E} {nm : Nm} {x : Expr} (h : mEs c (e :: es) nm [x] = true) : es = [] ∧ nStar x = true ∧ mE c e false nm x = true := by
  simp only [mEs, Bool.and_eq_true] at h
  cases es with
  | nil => exact ⟨rfl, h.1.1, h.1.2⟩
  | cons _ _ => simp [mEs] at h
theorem sset_eq {a : E} : fSSet (evE C a) = evE C (.bi .sset [a]) := by
  funext env st
  simp only [fSSet, evE, evEs]
  cases evE C a env st with
  | none => rfl
  | some r => rfl
theorem mKV_len : ∀ {kvs : List E} {nm : Nm} {ks : List (Option Expr)} {vs : List Expr}, mKV c kvs nm ks vs = true → 2 * ks.length = kvs.length ∧ ks.length = vs.length ∧ ks.all (·.isSome) = true
  | [], nm, ks, vs, h => by
    simp only [mKV, Bool.and_eq_true, List.isEmpty_iff] at h
    obtain ⟨rfl, rfl⟩ := h
    exact ⟨rfl, rfl, rfl⟩
  | [_], nm, ks, vs, h => by simp [mKV] at h
  | k :: v :: r, nm, ks, vs, h => by
    simp only [mKV] at h
    split at h
    · simp only [Bool.and_eq_true] at h
      obtain ⟨a, b, d⟩ := mKV_len h.2
      refine ⟨by simp only [List.length_cons]; omega, by simp only [List.length_cons]; omega, by simp [d]⟩
    · cases h
theorem dlook_none {ks : List K1} : ∀ {ds : List D} {k : K1}, ks.length = ds.length → (dlook ks ds k).isSome = false → k ∉ ks := by
  induction ks with
  | nil => intro ds k _ _ h; simp at h
  | cons a ks ih =>
    intro ds k hl h
    cases ds with
    | nil => simp at hl
    | cons d ds =>
      simp only [dlook] at h
      split at h
      · cases h
      · rename_i hne
        intro hm
        rcases List.mem_cons.mp hm with e | hm
        · exact hne e.symm
        · exact ih (by simpa using hl) h hm
theorem evKV_len : ∀ {kvs : List E} {env : Env} {st : Sto} {r : List K1 × List D} {st' : Sto}, evKV C kvs env st = some (r, st') → 2 * r.1.length = kvs.length ∧ r.1.Nodup ∧ r.1.length = r.2.length
  | [], env, st, r, st', h => by
    simp only [evKV] at h
    cases h
    exact ⟨rfl, List.nodup_nil, rfl⟩
  | [_], env, st, r, st', h => by simp [evKV] at h
  | k :: v :: rest, env, st, r, st', h => by
    simp only [evKV] at h
    obtain ⟨x, _, h⟩ := obnd h
    obtain ⟨y, _, h⟩ := obnd h
    obtain ⟨p, _, h⟩ := obnd h
    obtain ⟨t, ht, h⟩ := obnd h
    obtain ⟨kx, _, h⟩ := obnd h
    split at h
    · cases h
    rename_i hn
    cases h
    obtain ⟨a, b, d⟩ := evKV_len (r := t.1) (st' := t.2) ht
    refine ⟨by simp only [List.length_cons]; omega, List.nodup_cons.mpr ⟨dlook_none d (by simpa using hn), b⟩, by simp only [List.length_cons]; omega⟩
theorem ownL_mem {N : List Str} {own : List Nat} (h : (ownL N own).map (·.2) = own) : True := trivial
set_option maxHeartbeats 1000000 in
mutual
theorem mE_ok : ∀ (e : E) {t : Bool} {nm : Nm} {x : Expr} {X : Cx}, XOk c cs C d X nm → mE c e t nm x = true → Ok cs X t x (evE C e)
  | .int i, t, nm, x, X, o, h => by
    simp only [mE] at h
    split at h
    · rw [decide_eq_true_eq] at h
      subst h
      exact Ok.plain (s_const pe_int fun F => Den.int_iff.mpr rfl) fun _ => rfl
    · cases h
  | .bl b, t, nm, x, X, o, h => by
    simp only [mE] at h
    split at h
    · have := eq_of_beq h
      subst this
      exact Ok.plain (s_const pe_bl fun F => Den.bl_iff.mpr rfl) fun _ => rfl
    · cases h
  | .non, t, nm, x, X, o, h => by
    simp only [mE] at h
    split at h
    · exact Ok.plain (s_const pe_non fun F => Den.non_iff.mpr rfl) fun _ => rfl
    · cases h
  | .str w, t, nm, x, X, o, h => by
    simp only [mE] at h
    split at h
    · rw [decide_eq_true_eq] at h
      subst h
      exact Ok.plain (s_const pe_str fun F => Den.str_iff.mpr rfl) fun _ => rfl
    · cases h
  | .var i, t, nm, x, X, o, h => by
    simp only [mE] at h
    split at h
    · rw [Bool.and_eq_true, Bool.and_eq_true, decide_eq_true_eq] at h
      obtain ⟨p1, p2⟩ := plainN_of h.2
      exact Ok.plain (s_var (pe_var (by rw [o.nN]; exact h.1.1) (vis_of o h.1.2) p1 p2)) fun _ => rfl
    · cases h
  | .gl w k, t, nm, x, X, o, h => by
    simp only [mE] at h
    split at h
    · rw [Bool.and_eq_true, Bool.and_eq_true] at h
      obtain ⟨⟨h1, h2⟩, h3⟩ := h
      obtain ⟨p1, p2⟩ := plainN_of h2
      obtain ⟨p, hp, e⟩ := List.any_eq_true.mp h3
      rw [Bool.and_eq_true, decide_eq_true_eq] at e
      obtain ⟨e1, e2⟩ := e
      obtain ⟨u, hu, ru⟩ := o.gs p hp
      rw [e1] at hu
      refine Ok.plain (s_const (pe_glob (gl_of o h1) hu ru p1) fun F => ?_) fun _ => rfl
      unfold gOk at e2
      split at e2
      · rename_i hk
        rw [decide_eq_true_eq] at e2
        subst e2
        rw [hk]
        exact Den.int_iff.mpr rfl
      · rename_i hk
        rw [decide_eq_true_eq] at e2
        subst e2
        rw [hk]
        exact Den.str_iff.mpr rfl
      · cases e2
    · cases h
  | .tup es, t, nm, x, X, o, h => by
    simp only [mE] at h
    split at h
    · rw [Bool.and_eq_true, decide_eq_true_eq] at h
      exact Ok.plain (s_tup (mEs_ok es o h.1) fun env st vs st' e => by rw [evEs_len e]; exact lim1000 h.2) fun _ => rfl
    · cases h
  | .bin op a b, t, nm, x, X, o, h => by
    simp only [mE] at h
    split at h
    · simp only [Bool.and_eq_true, decide_eq_true_eq] at h
      obtain ⟨⟨h1, h2⟩, h3⟩ := h
      subst h1
      exact Ok.plain (s_bin (mE_ok a o h2) (mE_ok b o h3)) fun _ => rfl
    · cases h
  | .neg a, t, nm, x, X, o, h => by
    simp only [mE] at h
    split at h
    · exact Ok.plain (s_neg (mE_ok a o h)) fun _ => rfl
    · cases h
  | .not a, t, nm, x, X, o, h => by
    simp only [mE] at h
    split at h
    · cases t
      · exact s_not (mE_ok a o h)
      · exact s_notT (mE_ok a o h)
    · cases h
  | .and a b, t, nm, x, X, o, h => by
    simp only [mE] at h
    split at h
    · rename_i xa xb r p
      rw [Bool.and_eq_true] at h
      have ha := mE_ok a o h.1
      have hb := mE_ok b o h.2
      cases t
      · cases r with
        | nil => exact s_and ha (s_one hb)
        | cons z r => exact s_and ha hb
      · cases r with
        | nil => exact pt_of (s_andW ha (pw_and1 hb))
        | cons z r => exact pt_of (s_andW ha (pw_of hb))
    · cases h
  | .or a b, t, nm, x, X, o, h => by
    simp only [mE] at h
    split at h
    · rename_i xa xb r p
      rw [Bool.and_eq_true] at h
      have ha := mE_ok a o h.1
      have hb := mE_ok b o h.2
      cases t
      · cases r with
        | nil => exact s_or ha (s_one hb)
        | cons z r => exact s_or ha hb
      · cases r with
        | nil => exact pt_of (s_orW ha (pw_or1 hb))
        | cons z r => exact pt_of (s_orW ha (pw_of hb))
    · cases h
  | .cmp op a b, t, nm, x, X, o, h => by
    simp only [mE] at h
    split at h
    · simp only [Bool.and_eq_true, decide_eq_true_eq] at h
      obtain ⟨⟨⟨h1, h2⟩, h3⟩, h4⟩ := h
      subst h1
      cases t
      · exact s_cmp o.un (mE_ok a o h2) (mE_ok b o h3) (by simpa using h4)
      · exact s_cmpT o.un (mE_ok a o h2) (mE_ok b o h3) (by simpa using h4)
    · cases h
  | .chain op op' a b e, t, nm, x, X, o, h => by
    simp only [mE] at h
    split at h
    · simp only [Bool.and_eq_true, decide_eq_true_eq] at h
      obtain ⟨⟨⟨⟨⟨h1, h1'⟩, h2⟩, h3⟩, h4⟩, h5⟩ := h
      subst h1
      subst h1'
      cases t
      · exact s_chain o.un (mE_ok a o h2) (mE_ok b o h3) (mE_ok e o h4) (by simpa using h5)
      · exact s_chainT o.un (mE_ok a o h2) (mE_ok b o h3) (mE_ok e o h4) (by simpa using h5)
    · cases h
  | .ite e a b, t, nm, x, X, o, h => by
    simp only [mE] at h
    split at h
    · simp only [Bool.and_eq_true] at h
      obtain ⟨⟨⟨h1, h2⟩, h3⟩, h4⟩ := h
      cases t
      · exact s_ite (mE_ok e o h2) (mE_ok a o h3) (mE_ok b o h4)
      · cases h1
    · cases h
  | .idx a i, t, nm, x, X, o, h => by
    simp only [mE] at h
    split at h
    · simp only [Bool.and_eq_true] at h
      exact Ok.plain (s_idx o.un (mE_ok a o h.1.2) (mE_ok i o h.2) h.1.1) fun _ => rfl
    · cases h
  | .slc a lo hi, t, nm, x, X, o, h => by
    simp only [mE] at h
    split at h
    · simp only [Bool.and_eq_true] at h
      exact Ok.plain (s_slc (mE_ok a o h.1.1) (mP_ok lo o h.1.2) (mP_ok hi o h.2)) fun _ => rfl
    · cases h
  | .call f m es, t, nm, x, X, o, h => by
    simp only [mE] at h
    split at h
    · rename_i y p zs p'
      simp only [Bool.and_eq_true] at h
      obtain ⟨⟨⟨h1, h2⟩, h3⟩, h4⟩ := h
      obtain ⟨n, hf, hn⟩ := fs_of o (by simpa using h3)
      rw [← call_eq]
      cases zs with
      | nil =>
        cases es with
        | nil => exact Ok.plain (s_call0 hf hn o.rm (gl_of o h1) (plainN_of h2).1) fun _ => rfl
        | cons _ _ => simp [mEs] at h4
      | cons z zs =>
        obtain ⟨hs, hl⟩ := mEs_star h4
        rw [List.all_cons, Bool.and_eq_true] at hs
        exact Ok.plain (s_call hf hn o.rm (gl_of o h1) (mEs_ok es o h4) (plainN_of h2).1 (noStar hs.1) (star_any hs.2)) fun _ => rfl
    · cases h
  | .callA f m es, t, nm, x, X, o, h => by
    simp only [mE] at h
    split at h
    · rename_i y p zs p'
      simp only [Bool.and_eq_true] at h
      obtain ⟨⟨⟨h1, h2⟩, h3⟩, h4⟩ := h
      obtain ⟨n, hf, hn⟩ := fs_of o (by simpa using h3)
      rw [← callA_eq]
      cases zs with
      | nil =>
        cases es with
        | nil => exact Ok.plain (s_callA0 hf hn o.rm (gl_of o h1) (plainN_of h2).1) fun _ => rfl
        | cons _ _ => simp [mEs] at h4
      | cons z zs =>
        obtain ⟨hs, hl⟩ := mEs_star h4
        rw [List.all_cons, Bool.and_eq_true] at hs
        exact Ok.plain (s_callA hf hn o.rm (gl_of o h1) (mEs_ok es o h4) (plainN_of h2).1 (noStar hs.1) (star_any hs.2)) fun _ => rfl
    · cases h
  | .bi b es, t, nm, x, X, o, h => by
    simp only [mE] at h
    split at h
    · rename_i y p z zs kws p'
      simp only [Bool.and_eq_true, decide_eq_true_eq] at h
      obtain ⟨⟨⟨h1, h2⟩, h3⟩, h4⟩ := h
      subst h1
      split at h4
      · rw [Bool.or_eq_true, Bool.and_eq_true, Bool.and_eq_true] at h4
        rcases h4 with h4 | ⟨g1, g2⟩
        case inr =>
          unfold isSset at g1
          split at g1
          · rename_i y2 p2 xe p3
            simp only [Bool.and_eq_true, decide_eq_true_eq] at g1
            obtain ⟨⟨k1, k2⟩, k3⟩ := g1
            subst k1
            cases es with
            | nil => simp [mEs, argsE] at g2
            | cons e es =>
              obtain ⟨k4, k5, k6⟩ := mEs_one g2
              subst k4
              rw [← sset_eq]
              exact Ok.plain (s_sset o.calm (gl_of o h2) (any_fr o h3) (gl_of o k2) (any_fr o k3) (mE_ok e o k6) k5) fun _ => rfl
          · cases g1
        obtain ⟨hs, hl⟩ := mEs_star h4.2
        rw [List.all_cons, Bool.and_eq_true] at hs
        exact Ok.plain (s_bi h4.1 o.calm (gl_of o h2) (any_fr o h3) (mEs_ok es o h4.2) (noStar hs.1) (star_any hs.2)) fun _ => rfl
      · rename_i a kx kp
        simp only [Bool.and_eq_true, decide_eq_true_eq] at h4
        obtain ⟨⟨g1, g2⟩, g3⟩ := h4
        unfold isMaxD at g2
        split at g2
        · rename_i ea ed
          obtain ⟨x1, x2, e12, hs, he, hs2, he2⟩ := mE_two g3
          cases e12
          rw [← maxD_eq]
          exact Ok.plain (s_maxD g1 o.calm (gl_of o h2) (any_fr o h3) (mE_ok ea o he) (mE_ok ed o he2) hs) fun _ => rfl
        · cases g2
      · cases h4
    · cases h
  | .mt m a es, t, nm, x, X, o, h => by
    simp only [mE] at h
    split at h
    · rename_i xo y ap xs p
      simp only [Bool.and_eq_true, decide_eq_true_eq] at h
      obtain ⟨⟨⟨⟨⟨h1, h2⟩, h3⟩, h4⟩, h5⟩, h6⟩ := h
      subst h1
      have hl : (ap.endLine == p.line) = true := h3
      have ho := mE_ok a o h4
      split at h6
      · cases xs <;> simp only [mEs, Bool.false_eq_true] at h5
        exact Ok.plain (s_mt0 ho h2 hl fun _ _ _ _ => mt_pop_ok) fun _ => rfl
      · cases xs <;> simp only [mEs, Bool.false_eq_true] at h5
        exact Ok.plain (s_mt0 ho h2 hl fun _ _ _ _ => mt_clear_ok) fun _ => rfl
      · rename_i e1
        obtain ⟨x1, rfl, hs, he⟩ := mE_one h5
        exact Ok.plain (s_mt1 ho (mE_ok e1 o he) h2 hs hl fun _ _ _ _ _ => mt_append_ok) fun _ => rfl
      · rename_i e1
        obtain ⟨x1, rfl, hs, he⟩ := mE_one h5
        exact Ok.plain (s_mt1 ho (mE_ok e1 o he) h2 hs hl fun _ _ _ _ _ => mt_popAt_ok) fun _ => rfl
      · rename_i e1
        obtain ⟨x1, rfl, hs, he⟩ := mE_one h5
        exact Ok.plain (s_mt1 ho (mE_ok e1 o he) h2 hs hl fun _ _ _ _ _ => mt_join_ok) fun _ => rfl
      · rename_i e1
        obtain ⟨x1, rfl, hs, he⟩ := mE_one h5
        exact Ok.plain (s_mt1 ho (mE_ok e1 o he) h2 hs hl fun _ _ _ _ _ => mt_update_ok) fun _ => rfl
      · rename_i e1 e2
        obtain ⟨x1, x2, rfl, hs, he, hs2, he2⟩ := mE_two h5
        exact Ok.plain (s_get o.un ho (mE_ok e1 o he) (mE_ok e2 o he2) h2 hs hs2 hl) fun _ => rfl
      · rename_i e1 e2
        obtain ⟨x1, x2, rfl, hs, he, hs2, he2⟩ := mE_two h5
        exact Ok.plain (s_mt2 ho (mE_ok e1 o he) (mE_ok e2 o he2) h2 hs hs2 hl fun _ _ _ _ _ _ => mt_pop2_ok (by have := o.un; omega)) fun _ => rfl
      · cases h6
    · cases h
  | .isi a ts, t, nm, x, X, o, h => by
    simp only [mE] at h
    split at h
    · rename_i y py xa z pz pc t'
      simp only [Bool.and_eq_true, decide_eq_true_eq] at h
      obtain ⟨⟨⟨⟨⟨⟨⟨h1, h2⟩, h3⟩, h4⟩, h5⟩, h6⟩, h7⟩, h8⟩ := h
      subst h1
      subst h2
      rw [← isi_eq]
      exact Ok.plain (s_isi (gl_of o h3) (any_fr o h5) (gl_of o h4) (any_fr o h6) (mE_ok a o h8) h7) fun _ => rfl
    · cases h
  | .fz e, t, nm, x, X, o, h => by
    simp only [mE] at h
    obtain ⟨h1, h2⟩ := mO_ok e o h
    exact Ok.plain (s_fz h1) (h2 _)
  | .new e, t, nm, x, X, o, h => by
    simp only [mE] at h
    obtain ⟨h1, h2⟩ := mO_ok e o h
    exact Ok.plain (s_new h1) (h2 _)
  | .attr k a w, t, nm, x, X, o, h => by
    simp only [mE] at h
    split at h
    · simp only [Bool.and_eq_true, decide_eq_true_eq] at h
      obtain ⟨⟨⟨h1, h2⟩, h3⟩, h4⟩ := h
      subst h1
      obtain ⟨Ca, g1, g2, g3⟩ := at_of o h4
      rw [← attr_eq]
      exact Ok.plain (s_attr g1 g2 g3 (mE_ok a o h3) (noSuper h2 _)) fun _ => rfl
    · cases h
  | .meth k f w a es, t, nm, x, X, o, h => by
    simp only [mE] at h
    split at h
    · rename_i xo y ap xs p
      simp only [Bool.and_eq_true, decide_eq_true_eq] at h
      obtain ⟨⟨⟨⟨⟨⟨h1, h2⟩, h3⟩, h4⟩, h5⟩, h6⟩, h7⟩ := h
      subst h1
      obtain ⟨n, g1, g2⟩ := ms_of o h7
      rw [← meth_eq]
      obtain ⟨hs, hl⟩ := mEs_star h5
      cases xs with
      | nil =>
        cases es with
        | nil => exact Ok.plain (s_meth0 g1 g2 o.rm (mE_ok a o h4) (noSuper h2 _) h3) fun _ => rfl
        | cons _ _ => simp [mEs] at h5
      | cons z zs =>
        have hs2 := hs
        rw [List.all_cons, Bool.and_eq_true] at hs2
        exact Ok.plain (s_meth g1 g2 o.rm (mE_ok a o h4) (mEs_ok es o h5) (noStar hs2.1) (star_any hs2.2) (noSuper h2 _) h3 (star_all hs) (by omega)) fun _ => rfl
    · cases h
  | .make g es, t, nm, x, X, o, h => by
    simp only [mE] at h
    split at h
    · simp only [Bool.and_eq_true] at h
      obtain ⟨⟨⟨h1, h2⟩, h3⟩, h4⟩ := h
      obtain ⟨n, g1⟩ := mk_of o h4
      rw [← make_eq]
      obtain ⟨hs, hl⟩ := mEs_star h3
      rw [List.all_cons, Bool.and_eq_true] at hs
      exact Ok.plain (s_make g1 o.rm (gl_of o h1) (mEs_ok es o h3) (plainN_of h2).1 (noStar hs.1) (star_any hs.2)) fun _ => rfl
    · cases h
theorem mEs_ok : ∀ (es : List E) {nm : Nm} {xs : List Expr} {X : Cx}, XOk c cs C d X nm → mEs c es nm xs = true → PA X xs (tEs X.K cs (evEs C es))
  | [], nm, xs, X, o, h => by
    simp only [mEs] at h
    split at h
    · exact s_nil
    · cases h
  | e :: es, nm, xs, X, o, h => by
    simp only [mEs] at h
    split at h
    · simp only [Bool.and_eq_true] at h
      exact s_cons (mE_ok e o h.1.2) (mEs_ok es o h.2) h.1.1
    · cases h
theorem mP_ok : ∀ (e : Option E) {nm : Nm} {x : Option Expr} {X : Cx}, XOk c cs C d X nm → mP c e nm x = true → PO X x (tP X.K cs (evP C e))
  | none, nm, x, X, o, h => by
    simp only [mP] at h
    split at h
    · exact s_po0
    · cases h
  | some e, nm, x, X, o, h => by
    simp only [mP] at h
    split at h
    · exact s_po1 (mE_ok e o h)
    · cases h
theorem mC_ok : ∀ (e : Option E) {nm : Nm} {xs : List Expr} {X : Cx}, XOk c cs C d X nm → mC c e nm xs = true → PTs X xs (tB X.K cs fun env st => evC C e env st)
  | none, nm, xs, X, o, h => by
    simp only [mC] at h
    split at h
    · exact ⟨fun pins s σ H Q I ⟨F, B, as, env, st, b, st', r, ev, k⟩ => pts_nil.run pins s σ H Q I (by
        simp only [evC] at ev
        cases ev
        exact k F as H r r.refl)⟩
    · cases h
  | some e, nm, xs, X, o, h => by
    simp only [mC] at h
    split at h
    · exact pts_one (mE_ok e o h)
    · cases h
theorem mO_ok : ∀ (e : O) {nm : Nm} {x : Expr} {X : Cx}, XOk c cs C d X nm → mO c e nm x = true → PE X x (tO X.K cs (evO C e)) ∧ ∀ (env : PySem.Env) whole, isTrue x env whole = (do let v ← whole; standAt x.pos; holding [v] (truthy v))
  | .lst es, nm, x, X, o, h => by
    simp only [mO] at h
    split at h
    · rw [Bool.and_eq_true, decide_eq_true_eq] at h
      exact ⟨s_lst (mEs_ok es o h.1) fun env st vs st' e => by rw [evEs_len e]; exact lim1000 h.2, fun _ _ => rfl⟩
    · cases h
  | .dic kvs, nm, x, X, o, h => by
    simp only [mO] at h
    split at h
    · rename_i ks vs p
      rw [Bool.and_eq_true, decide_eq_true_eq] at h
      obtain ⟨h1, h2⟩ := h
      refine ⟨?_, fun _ _ => rfl⟩
      cases ks with
      | nil =>
        obtain ⟨l1, l2, l3⟩ := mKV_len h1
        have e : kvs = [] := List.eq_nil_of_length_eq_zero (by simpa using l1.symm)
        subst e
        have e2 : vs = [] := List.eq_nil_of_length_eq_zero (by simpa using l2.symm)
        subst e2
        exact s_dic0
      | cons k0 ks0 =>
        obtain ⟨l1, l2, l3⟩ := mKV_len h1
        obtain ⟨trs, t1, t2⟩ := mKV_ok kvs (pos := p) o h1
        refine s_dic t1 t2 l3 l2 (by simp) h2 fun env st r st' e => ?_
        obtain ⟨m1, m2, m3⟩ := evKV_len e
        exact ⟨by omega, m2⟩
    · cases h
  | .dicT, nm, x, X, o, h => by
    simp only [mO] at h
    split at h
    · exact ⟨s_dicT, fun _ _ => rfl⟩
    · cases h
  | .comp elt tg tup it e own, nm, x, X, o, h => by
    simp only [mO] at h
    split at h
    · rename_i xe xt xi ifs sc p
      simp only [Bool.and_eq_true, decide_eq_true_eq] at h
      obtain ⟨⟨⟨⟨⟨⟨⟨⟨h1, h0⟩, h2⟩, h3⟩, h4⟩, h5⟩, h6⟩, h7⟩, h8⟩ := h
      have hi := mI_ok it (tg := xt) o h2 h0
      have hb : BlkOk X.N X.env.scope sc (ownL c.N own) := by
        rw [o.nN]
        exact blkOk_by (blkC_names (sc := X.env.scope) o.nms.symm h4)
      have hk := hb.kind
      have ho := fun (s : Shared) (H : Hp) (Ca : Addr) (cl : List (Str × Addr)) (fp : List Addr) => blk_ok o (s := s) (H := H) (scope := sc) (Ca := Ca) (cl := cl) (fp := fp) hk
      have hg := fun (s : Shared) (H : Hp) (Ca : Addr) (cl : List (Str × Addr)) (fp : List Addr) => tgt_blk (cs := cs) o (s := s) (H := H) (scope := sc) (Ca := Ca) (cl := cl) (fp := fp) hk h6
      refine ⟨?_, fun _ _ => rfl⟩
      have hT : TgOk X.K cs (gTgt X.K tg tup) (fun d e => bindT tg tup d e) tg := (hg X.s_0 X.H_0 0 [] []).2
      have hL := (pe_lc (pos := p) (g := gTgt X.K tg tup) (te := tE X.K cs (evE C elt)) (tt := tB X.K cs fun env st => evC C e env st) o.calm (by rw [o.nN]; exact o.nd) hi hb (fun s H Ca cl fp => (hg s H Ca cl fp).1) (fun s H Ca cl fp => mC_ok e (ho s H Ca cl fp) h7) (fun s H Ca cl fp => mE_ok elt (ho s H Ca cl fp) h8) (nSet_of h1))
      rw [h3] at hL
      refine hL.weak (comp_of hT fun i hi => ?_)
      have := List.all_eq_true.mp h5 i hi
      simpa using this
    · cases h
  | .compP elt tg tup i e own, nm, x, X, o, h => by
    simp only [mO] at h
    split at h
    · rename_i xe xt y py ifs sc p
      simp only [Bool.and_eq_true, decide_eq_true_eq] at h
      obtain ⟨⟨⟨⟨⟨⟨⟨⟨h1, h0⟩, h2⟩, h3⟩, h4⟩, h5⟩, h6⟩, h7⟩, h8⟩ := h
      have hv : mE c (.var i) false nm (.Name y py) = true := by simp only [mE, Bool.and_eq_true, decide_eq_true_eq]; exact ⟨⟨h1, h0⟩, h2⟩
      have he0 : evE C (.var i) = fVar i := by funext env st; rfl
      have hPE := mE_ok (.var i) o hv
      have hi : PI X xt (.Name y py) (tIG X.K cs (fPl i) (gPl i)) := s_pl (by rw [← he0]; exact hPE)
      have hb : BlkOk X.N X.env.scope sc (ownL c.N own) := by
        rw [o.nN]
        exact blkOk_by (blkC_names (sc := X.env.scope) o.nms.symm h4)
      have hk := hb.kind
      have ho := fun (s : Shared) (H : Hp) (Ca : Addr) (cl : List (Str × Addr)) (fp : List Addr) => blk_ok o (s := s) (H := H) (scope := sc) (Ca := Ca) (cl := cl) (fp := fp) hk
      have hg := fun (s : Shared) (H : Hp) (Ca : Addr) (cl : List (Str × Addr)) (fp : List Addr) => tgt_blk (cs := cs) o (s := s) (H := H) (scope := sc) (Ca := Ca) (cl := cl) (fp := fp) hk h6
      refine ⟨?_, fun _ _ => rfl⟩
      have hT : TgOk X.K cs (gTgt X.K tg tup) (fun d e => bindT tg tup d e) tg := (hg X.s_0 X.H_0 0 [] []).2
      have hL := (pe_lc (pos := p) (g := gTgt X.K tg tup) (te := tE X.K cs (evE C elt)) (tt := tB X.K cs fun env st => evC C e env st) o.calm (by rw [o.nN]; exact o.nd) hi hb (fun s H Ca cl fp => (hg s H Ca cl fp).1) (fun s H Ca cl fp => mC_ok e (ho s H Ca cl fp) h7) (fun s H Ca cl fp => mE_ok elt (ho s H Ca cl fp) h8) (nSet_of rfl))
      rw [h3] at hL
      have hev : evO C (.compP elt tg tup i e own) = fCompG (fPl i) (gPl i) own (fun d e => bindT tg tup d e) (fun e' s => evC C e e' s) (fun e s => evE C elt e s) := by
        funext env st
        simp only [evO, fCompG, fPl]
        cases hp : plV env i st with
        | none => rfl
        | some r => simp only [Option.bind_some, Option.map_some, gPl_of hp]
      rw [hev]
      refine hL.weak (comp_ofG hT (fun i hi => ?_) gPl_0)
      have := List.all_eq_true.mp h5 i hi
      simpa using this
    · cases h
  | .compD elt tg tup i e own, nm, x, X, o, h => by
    simp only [mO] at h
    split at h
    · rename_i xe xt y py ifs sc p
      simp only [Bool.and_eq_true, decide_eq_true_eq] at h
      obtain ⟨⟨⟨⟨⟨⟨⟨⟨h1, h0⟩, h2⟩, h3⟩, h4⟩, h5⟩, h6⟩, h7⟩, h8⟩ := h
      have hv : mE c (.var i) false nm (.Name y py) = true := by simp only [mE, Bool.and_eq_true, decide_eq_true_eq]; exact ⟨⟨h1, h0⟩, h2⟩
      have hvar : PE X (.Name y py) (tVar i) := by
        obtain ⟨p1, p2⟩ := plainN_of h2
        exact pe_var (by rw [o.nN]; exact h1) (vis_of o h0) p1 p2
      have hi : PI X xt (.Name y py) fun σ H R => Zk i σ H ∧ tIG X.K cs (fKy i) anyG σ H R := s_ky hvar
      have hb : BlkOk X.N X.env.scope sc (ownL c.N own) := by
        rw [o.nN]
        exact blkOk_by (blkC_names (sc := X.env.scope) o.nms.symm h4)
      have hk := hb.kind
      have ho := fun (s : Shared) (H : Hp) (Ca : Addr) (cl : List (Str × Addr)) (fp : List Addr) => blk_ok o (s := s) (H := H) (scope := sc) (Ca := Ca) (cl := cl) (fp := fp) hk
      have hg := fun (s : Shared) (H : Hp) (Ca : Addr) (cl : List (Str × Addr)) (fp : List Addr) => tgt_blk (cs := cs) o (s := s) (H := H) (scope := sc) (Ca := Ca) (cl := cl) (fp := fp) hk h6
      refine ⟨?_, fun _ _ => rfl⟩
      have hT : TgOk X.K cs (gTgt X.K tg tup) (fun d e => bindT tg tup d e) tg := (hg X.s_0 X.H_0 0 [] []).2
      have hL := (pe_lc (pos := p) (g := gTgt X.K tg tup) (te := tE X.K cs (evE C elt)) (tt := tB X.K cs fun env st => evC C e env st) o.calm (by rw [o.nN]; exact o.nd) hi hb (fun s H Ca cl fp => (hg s H Ca cl fp).1) (fun s H Ca cl fp => mC_ok e (ho s H Ca cl fp) h7) (fun s H Ca cl fp => mE_ok elt (ho s H Ca cl fp) h8) (nSet_of rfl))
      rw [h3] at hL
      have hev : evO C (.compD elt tg tup i e own) = fCompG (fKy i) anyG own (fun d e => bindT tg tup d e) (fun e' s => evC C e e' s) (fun e s => evE C elt e s) := by
        rw [fCompG_any]
        funext env st
        simp only [evO, fComp, fKy]
        cases hp : kyV env i with
        | none => rfl
        | some r => rfl
      rw [hev]
      refine lock_of (i := i) (fun env st o st' ev => ?_) (hL.weak (comp_ofGZ (Z := Zk i) hT (fun i hi => ?_) fun _ _ _ _ _ => trivial))
      · obtain ⟨⟨ds, s1⟩, hfi, _⟩ := obnd ev
        obtain ⟨ds', hk, eds⟩ := omap hfi
        exact ⟨ds', hk⟩
      have := List.all_eq_true.mp h5 i hi
      simpa using this
    · cases h
  | .list a, nm, x, X, o, h => by
    simp only [mO] at h
    split at h
    · simp only [Bool.and_eq_true, decide_eq_true_eq] at h
      obtain ⟨⟨⟨⟨h1, h2⟩, h3⟩, h4⟩, h5⟩ := h
      subst h1
      exact ⟨s_list o.calm (gl_of o h2) (any_fr o h3) (mE_ok a o h5) h4, fun _ _ => rfl⟩
    · cases h
  | .dict a, nm, x, X, o, h => by
    simp only [mO] at h
    split at h
    · simp only [Bool.and_eq_true, decide_eq_true_eq] at h
      obtain ⟨⟨⟨⟨h1, h2⟩, h3⟩, h4⟩, h5⟩ := h
      subst h1
      exact ⟨s_dict (gl_of o h2) (any_fr o h3) (mE_ok a o h5) h4, fun _ _ => rfl⟩
    · cases h
  | .cut a lo hi, nm, x, X, o, h => by
    simp only [mO] at h
    split at h
    · simp only [Bool.and_eq_true] at h
      exact ⟨s_cut (mE_ok a o h.1.1) (mP_ok lo o h.1.2) (mP_ok hi o h.2), fun _ _ => rfl⟩
    · cases h
  | .cat a b, nm, x, X, o, h => by
    simp only [mO] at h
    split at h
    · simp only [Bool.and_eq_true] at h
      exact ⟨s_cat (mE_ok a o h.1) (mE_ok b o h.2), fun _ _ => rfl⟩
    · cases h
  | .evn a, nm, x, X, o, h => by
    simp only [mO] at h
    split at h
    · simp only [Bool.and_eq_true, decide_eq_true_eq] at h
      obtain ⟨h1, h2⟩ := h
      subst h1
      exact ⟨s_evn (mE_ok a o h2), fun _ _ => rfl⟩
    · cases h
  | .rep a b, nm, x, X, o, h => by
    simp only [mO] at h
    split at h
    · simp only [Bool.and_eq_true] at h
      exact ⟨s_rep (mE_ok a o h.1) (mE_ok b o h.2), fun _ _ => rfl⟩
    · cases h
theorem mKV_ok : ∀ (kvs : List E) {nm : Nm} {ks : List (Option Expr)} {vs : List Expr} {pos : Pos} {X : Cx}, XOk c cs C d X nm → mKV c kvs nm ks vs = true → ∃ trs, PPs X pos ks vs trs ∧ tKVok X cs trs (evKV C kvs)
  | [], nm, ks, vs, pos, X, o, h => by
    simp only [mKV, Bool.and_eq_true, List.isEmpty_iff] at h
    obtain ⟨rfl, rfl⟩ := h
    exact ⟨[], pps_nil, kv_nil⟩
  | [_], nm, ks, vs, pos, X, o, h => by simp [mKV] at h
  | k :: v :: r, nm, ks, vs, pos, X, o, h => by
    simp only [mKV] at h
    split at h
    · simp only [Bool.and_eq_true] at h
      obtain ⟨⟨h1, h2⟩, h3⟩ := h
      obtain ⟨trs, t1, t2⟩ := mKV_ok r (pos := pos) o h3
      exact ⟨_, pps_cons (mE_ok k o h1) (mE_ok v o h2) t1, kv_cons t2⟩
    · cases h
theorem mI_ok : ∀ (e : I) {nm : Nm} {x tg : Expr} {X : Cx}, XOk c cs C d X nm → mI c e nm x = true → (!tupI e || isTupE tg) = true → PI X tg x (tI X.K cs (evI C e))
  | .e a, nm, x, tg, X, o, h, _ => by
    simp only [mI] at h
    exact s_it (mE_ok a o h)
  | .rng es, nm, x, tg, X, o, h, _ => by
    simp only [mI] at h
    split at h
    · rename_i y py xs p
      simp only [Bool.and_eq_true, decide_eq_true_eq] at h
      obtain ⟨⟨⟨⟨h1, h2⟩, h3⟩, h4⟩, h5⟩ := h
      subst h1
      obtain ⟨hs, hl⟩ := mEs_star h4
      have hes := mEs_ok es o h4
      split at h5
      · simp only [List.all_cons, Bool.and_eq_true] at hs
        exact s_rng1 (gl_of o h2) (any_fr o h3) hes hs.1 fun env st vs st' e => by rw [evEs_len e, ← hl]; rfl
      · simp only [List.all_cons, Bool.and_eq_true] at hs
        exact s_rng2 (gl_of o h2) (any_fr o h3) hes hs.1 hs.2.1 fun env st vs st' e => by rw [evEs_len e, ← hl]; rfl
      · simp only [List.all_cons, Bool.and_eq_true] at hs
        exact s_rng3 (gl_of o h2) (any_fr o h3) hes hs.1 hs.2.1 hs.2.2.1 fun env st vs st' e => by rw [evEs_len e, ← hl]; rfl
      · cases h5
    · cases h
  | .enum a, nm, x, tg, X, o, h, ht => by
    simp only [mI] at h
    split at h
    · simp only [Bool.and_eq_true, decide_eq_true_eq] at h
      obtain ⟨⟨⟨⟨h1, h2⟩, h3⟩, h4⟩, h5⟩ := h
      subst h1
      cases tg <;> first | (exfalso; revert ht; simp [tupI, isTupE]; done) | skip
      exact s_enum (gl_of o h2) (any_fr o h3) (mE_ok a o h5) h4
    · cases h
  | .zip a b, nm, x, tg, X, o, h, ht => by
    simp only [mI] at h
    split at h
    · simp only [Bool.and_eq_true, decide_eq_true_eq] at h
      obtain ⟨⟨⟨⟨⟨⟨h1, h2⟩, h3⟩, h4⟩, h5⟩, h6⟩, h7⟩ := h
      subst h1
      cases tg <;> first | (exfalso; revert ht; simp [tupI, isTupE]; done) | skip
      exact s_zip (gl_of o h2) (any_fr o h3) (mE_ok a o h6) (mE_ok b o h7) h4 h5
    · cases h
  | .rev a, nm, x, tg, X, o, h, _ => by simp [mI] at h
  | .revr es, nm, x, tg, X, o, h, _ => by simp [mI] at h
end
end
end NK
set_option Elab.async false
set_option linter.all false
set_option autoImplicit false
set_option maxRecDepth 100000
/-! NkP: what fits is sound: statements. -/
namespace NK
open PySem PySem.Spec PyProof.Rows L2
def nComp : Expr → Bool
  | .ListComp _ _ _ _ => false
  | .SetComp _ _ _ _ => false
  | .DictComp _ _ _ _ _ => false
  | _ => true
def nTup : Expr → Bool
  | .Tuple _ _ _ => false
  | _ => true
/-- e makes a list by a comprehension -/
def isComp : E → Bool
  | .fz (.comp _ _ _ _ _ _) => true
  | .new (.comp _ _ _ _ _ _) => true
  | _ => false
def swB (nm : Nm) (y : Str) (py : Pos) : Expr → Bool
  | .ListComp _ _ sc p => decide (nm.lookup y = some .local) && (py.line == p.line) && !(sc.names.any fun (n, k) => n == y && (k == .local || k == .cell))
  | _ => false
def parB (nm : Nm) (x y : Str) (px py : Pos) (xa xb : Expr) : Bool :=
  decide (nm.lookup x = some .local) && decide (nm.lookup y = some .local) && decide (px.line = py.line) && decide (x ≠ y) && nStar xa && nStar xb && !([xa, xb].all (foldedForSure 8)) && !([xa, xb].all (constantsAlone 8))
def isRaise : Stmt → Bool
  | .Raise _ _ _ => true
  | _ => false
mutual
def mS (c : MC) : St → Nm → Stmt → Bool
  | .set i e, nm, s => match s with
    | .Assign [.Name y py] x p => decide (c.N[i]? = some y) && locB nm y && mE c e false nm x && (nComp x || (isComp e && swB nm y py x))
    | _ => false
  | .setT is e, nm, s => match s with
    | .Assign [.Tuple ts k pt] x p => tgB c.N nm is ts && mE c e false nm x && nComp x && nTup x
    | _ => false
  | .par i j a b, nm, s => match s with
    | .Assign [.Tuple [.Name x px, .Name y py] k pt] (.Tuple [xa, xb] k2 pt2) p => decide (c.N[i]? = some x) && decide (c.N[j]? = some y) && decide (i ≠ j) && parB nm x y px py xa xb && mE c a false nm xa && mE c b false nm xb
    | _ => false
  | .sub o k v, nm, s => match s with
    | .Assign [.Subscript xo xk pt] xv p => nSlice xk && nComp xv && mE c o false nm xo && mE c k false nm xk && mE c v false nm xv
    | _ => false
  | .aug i o e, nm, s => match s with
    | .AugAssign (.Name y py) op x p => decide (c.N[i]? = some y) && locB nm y && decide (op = opB o) && mE c e false nm x
    | _ => false
  | .ext i e, nm, s => match s with
    | .AugAssign (.Name y py) .Add x p => decide (c.N[i]? = some y) && locB nm y && mE c e false nm x
    | _ => false
  | .expr e, nm, s => match s with
    | .Expr x p => nComp x && mE c e false nm x
    | _ => false
  | .ifS e a b, nm, s => match s with
    | .If x xs ys p => mE c e true nm x && mSs c a nm xs && mSs c b nm ys
    | _ => false
  | .wh e b, nm, s => match s with
    | .While x xs [] p => mE c e true nm x && mSs c b nm xs
    | _ => false
  | .forS tg tup it b, nm, s => match s with
    | .For t x xs [] p => tgtB c.N nm tg tup t && nSet x && (!tupI it || isTupE t) && mI c it nm x && mSs c b nm xs
    | _ => false
  | .forP tg tup i b, nm, s => match s with
    | .For t (.Name y py) xs [] p => tgtB c.N nm tg tup t && decide (c.N[i]? = some y) && visB nm y && plainN y && mSs c b nm xs
    | _ => false
  | .forD tg tup i b, nm, s => match s with
    | .For t (.Name y py) xs [] p => tgtB c.N nm tg tup t && decide (c.N[i]? = some y) && visB nm y && plainN y && mSs c b nm xs
    | _ => false
  | .ret e, nm, s => match s with
    | .Return (some x) p => mE c e false nm x
    | _ => false
  | .retN, nm, s => match s with
    | .Return none p => true
    | _ => false
  | .pass, nm, s => match s with
    | .Pass p => true
    | _ => false
  | .nev, nm, s => isRaise s
  | .frz i, nm, s => false
  | .setA k o w v, nm, s => match s with
    | .Assign [.Attribute xo f pt] xv p => decide (f = S w) && nComp xv && mE c o false nm xo && mE c v false nm xv && atB c k w
    | _ => false
  | .augA k o w op v, nm, s => match s with
    | .AugAssign (.Attribute xo f pt) op' xv p => decide (f = S w) && decide (op' = opB op) && mE c o false nm xo && mE c v false nm xv && atB c k w
    | _ => false
def mSs (c : MC) : List St → Nm → List Stmt → Bool
  | [], nm, xs => match xs with
    | [] => true
    | _ => false
  | s :: ss, nm, xs => match s with
    | .frz i => mSs c ss nm xs
    | _ => match xs with
      | x :: xs => mS c s nm x && mSs c ss nm xs
      | [] => false
end
structure SOk (c : MC) (cs : Nat → Option Addr) (C : Calls) (d : Nat) (X : Cx) (nm : Nm) : Prop extends XOk c cs C d X nm where
  fn : ∀ y, X.fn y = true
  ps : PassesOwn (model X.prog X.w) X.A X.env X.xe
section
variable {c : MC} {cs : Nat → Option Addr} {C : Calls} {d : Nat} {X : Cx} {nm : Nm}
theorem sw_of {x : Expr} {t : Option Expr} {l : Nat} {env : PySem.Env} (h : nComp x = true) : swapsWith x t l env = pure false := by
  cases x <;> first | rfl | simp [nComp] at h
theorem swS_of {x t : Expr} {l : Nat} {env : PySem.Env} (h : nComp x = true) : swapsWithSole [t] x l env = pure false := sw_of h
theorem stores_of {x t : Expr} {env : PySem.Env} (h : nTup x = true) : swappedStores [t] x env = pure none := by
  cases t <;> cases x <;> first | rfl | simp [nTup] at h
theorem stores_sub {x o k : Expr} {p : Pos} {env : PySem.Env} : swappedStores [.Subscript o k p] x env = pure none := by
  cases x <;> rfl
theorem par_stores (o : XOk c cs C d X nm) {x y : Str} {px py pt p2 : Pos} {k k2 : Nat} {xa xb : Expr} (h : parB nm x y px py xa xb = true) : swappedStores [.Tuple [.Name x px, .Name y py] k pt] (.Tuple [xa, xb] k2 p2) X.env = pure (some [x, y]) := by
  unfold parB at h
  simp only [Bool.and_eq_true, decide_eq_true_eq, Bool.not_eq_true'] at h
  obtain ⟨⟨⟨⟨⟨⟨⟨h1, h2⟩, h3⟩, h4⟩, h5⟩, h6⟩, h7⟩, h8⟩ := h
  have kx : X.env.kindOf x = some .local := by unfold Env.kindOf; rw [o.nms]; exact h1
  have ky : X.env.kindOf y = some .local := by unfold Env.kindOf; rw [o.nms]; exact h2
  have bk : X.env.blockKind = .function := by unfold Env.blockKind; rw [o.knd]; rfl
  have st : ([xa, xb].any fun | .Starred .. => true | _ => false) = false := by
    cases xa <;> cases xb <;> first | rfl | simp [nStar] at h5 h6
  have xy : (x == y) = false := by simpa using h4
  have er : (List.eraseDups [x, y]).length = 2 := by
    have hyx : (y == x) = false := by simpa using Ne.symm h4
    simp [List.eraseDups_cons, xy, hyx]
  unfold swappedStores
  have e1 : (px.line == px.line) = true := by simp
  simp [bk, st, kx, ky, h3, h7, h8, e1, Expr.pos, er]
  intro hh
  exfalso
  rcases hh with hh | hh
  · cases xa <;> first | exact Bool.false_ne_true hh | exact Bool.false_ne_true h5
  · cases xb <;> first | exact Bool.false_ne_true hh | exact Bool.false_ne_true h6
theorem loc_st (o : SOk c cs C d X nm) {y : Str} (h : locB nm y = true) : L2.Loc X.env.scope y := by
  have := o.nms
  subst this
  exact loc_of h
theorem s_setLc (o : SOk c cs C d X nm) {e : O} {f : Env → Sto → Option (Val × Sto)} {i : Nat} {y : Str} {py p : Pos} {x : Expr} (w : ∀ σ H Q, tE X.K cs f σ H Q → tO X.K cs (evO C e) σ H Q) (he : ∃ elt tg tup it cc own, e = .comp elt tg tup it cc own) (hm : mO c e nm x = true) (hi : c.N[i]? = some y) (hs : swB nm y py x = true) :
    PS X (.Assign [.Name y py] x p) (tS X.K cs (fSet i f)) := by
  obtain ⟨elt, tg, tup, it, e, own, rfl⟩ := he
  simp only [mO] at hm
  split at hm
  · rename_i xe xt xi ifs sc p'
    simp only [Bool.and_eq_true, decide_eq_true_eq] at hm
    obtain ⟨⟨⟨⟨⟨⟨⟨⟨h1, h0⟩, h2⟩, h3⟩, h4⟩, h5⟩, h6⟩, h7⟩, h8⟩ := hm
    simp only [swB, Bool.and_eq_true, decide_eq_true_eq, Bool.not_eq_true'] at hs
    obtain ⟨⟨g1, g2⟩, g3⟩ := hs
    have o' := o.toXOk
    have hi' := mI_ok it (tg := xt) o' h2 h0
    have hb : BlkOk X.N X.env.scope sc (ownL c.N own) := by
      rw [o.nN]
      exact blkOk_by (blkC_names (sc := X.env.scope) o.nms.symm h4)
    have hk := hb.kind
    have ho := fun (s : Shared) (H : Hp) (Ca : Addr) (cl : List (Str × Addr)) (fp : List Addr) => blk_ok o' (s := s) (H := H) (scope := sc) (Ca := Ca) (cl := cl) (fp := fp) hk
    have hg := fun (s : Shared) (H : Hp) (Ca : Addr) (cl : List (Str × Addr)) (fp : List Addr) => tgt_blk (cs := cs) o' (s := s) (H := H) (scope := sc) (Ca := Ca) (cl := cl) (fp := fp) hk h6
    have hT : TgOk X.K cs (gTgt X.K tg tup) (fun d e => bindT tg tup d e) tg := (hg X.s_0 X.H_0 0 [] []).2
    have hL := (ps_setLc (i := i) (y := y) (py := py) (spos := p) (pos := p') (g := gTgt X.K tg tup) (te := tE X.K cs (evE C elt)) (tt := tB X.K cs fun env st => evC C e env st) o.calm (by rw [o.nN]; exact o.nd) (by rw [o.nN]; exact hi) (by rw [o.nms]; exact g1)
      (sw_true o.knd (by rw [o.nms]; exact g1) g2 g3) hi' hb (fun s H Ca cl fp => (hg s H Ca cl fp).1) (fun s H Ca cl fp => mC_ok e (ho s H Ca cl fp) h7) (fun s H Ca cl fp => mE_ok elt (ho s H Ca cl fp) h8) (nSet_of h1))
    rw [h3] at hL
    refine hL.weak fun D σ H hw => ?_
    have h9 := set_of (X := X) (i := i) D σ H hw
    refine comp_of hT (fun i hi => ?_) σ H _ (w σ H _ h9)
    have := List.all_eq_true.mp h5 i hi
    simpa using this
  · cases hm
set_option maxHeartbeats 1000000 in
mutual
theorem mS_ok : ∀ (s : St) {x : Stmt}, SOk c cs C d X nm → mS c s nm x = true → PS X x (tS X.K cs (evS C s))
  | .set i e, x, o, h => by
    simp only [mS] at h
    split at h
    · simp only [Bool.and_eq_true, Bool.or_eq_true, decide_eq_true_eq] at h
      obtain ⟨⟨⟨h1, h2⟩, h3⟩, h4⟩ := h
      rcases h4 with h4 | ⟨h4, h5⟩
      · exact s_set (by rw [o.nN]; exact o.nd) (by rw [o.nN]; exact h1) (loc_st o h2) (mE_ok e o.toXOk h3) (sw_of h4) (.inl (o.fn _))
      · cases e with
        | fz e =>
          simp only [mE] at h3
          have he : ∃ elt tg tup it cc own, e = .comp elt tg tup it cc own := by
            cases e <;> first | exact ⟨_, _, _, _, _, _, rfl⟩ | simp [isComp] at h4
          exact s_setLc o fz_of he h3 h1 h5
        | new e =>
          simp only [mE] at h3
          have he : ∃ elt tg tup it cc own, e = .comp elt tg tup it cc own := by
            cases e <;> first | exact ⟨_, _, _, _, _, _, rfl⟩ | simp [isComp] at h4
          exact s_setLc o new_of he h3 h1 h5
        | _ => simp [isComp] at h4
    · cases h
  | .setT is e, x, o, h => by
    simp only [mS] at h
    split at h
    · simp only [Bool.and_eq_true] at h
      obtain ⟨⟨⟨h1, h2⟩, h3⟩, h4⟩ := h
      have hN : X.N.Nodup := by rw [o.nN]; exact o.nd
      obtain ⟨a, b, e'⟩ := tgB_ok (X := X) (nm := nm) hN (fun y e => by rw [o.nms]; exact e) (fun y e => ⟨by rw [o.nms]; exact e, o.fn y⟩) (by rw [o.nN]; exact h1)
      exact s_unp (mE_ok e o.toXOk h2) (pg_tl o.calm a b e') (swS_of h3) (stores_of h4)
    · cases h
  | .par i j a b, x, o, h => by
    simp only [mS] at h
    split at h
    · simp only [Bool.and_eq_true, decide_eq_true_eq] at h
      obtain ⟨⟨⟨⟨⟨h1, h2⟩, h3⟩, h4⟩, h5⟩, h6⟩ := h
      have hp := h4
      unfold parB at hp
      simp only [Bool.and_eq_true, decide_eq_true_eq, Bool.not_eq_true'] at hp
      obtain ⟨⟨⟨⟨⟨⟨⟨g1, g2⟩, g3⟩, g4⟩, g5⟩, g6⟩, g7⟩, g8⟩ := hp
      exact s_par o.calm (by rw [o.nN]; exact o.nd) (by rw [o.nN]; exact h1) (by rw [o.nN]; exact h2) h3 (by rw [o.nms]; exact g1) (by rw [o.nms]; exact g2) (mE_ok a o.toXOk h5) (mE_ok b o.toXOk h6) g5 g6 (par_stores o.toXOk h4)
    · cases h
  | .sub e k v, x, o, h => by
    simp only [mS] at h
    split at h
    · simp only [Bool.and_eq_true] at h
      obtain ⟨⟨⟨⟨h1, h2⟩, h3⟩, h4⟩, h5⟩ := h
      exact s_sub o.un (mE_ok e o.toXOk h3) (mE_ok k o.toXOk h4) (mE_ok v o.toXOk h5) h1 (sw_of h2) stores_sub
    · cases h
  | .aug i op e, x, o, h => by
    simp only [mS] at h
    split at h
    · simp only [Bool.and_eq_true, decide_eq_true_eq] at h
      obtain ⟨⟨⟨h1, h2⟩, h3⟩, h4⟩ := h
      subst h3
      exact s_aug (by rw [o.nN]; exact o.nd) (by rw [o.nN]; exact h1) (loc_st o h2) (mE_ok e o.toXOk h4) (.inl (o.fn _))
    · cases h
  | .ext i e, x, o, h => by
    simp only [mS] at h
    split at h
    · simp only [Bool.and_eq_true, decide_eq_true_eq] at h
      obtain ⟨⟨h1, h2⟩, h4⟩ := h
      exact s_ext (by rw [o.nN]; exact o.nd) (by rw [o.nN]; exact h1) (loc_st o h2) (mE_ok e o.toXOk h4) (.inl (o.fn _))
    · cases h
  | .expr e, x, o, h => by
    simp only [mS] at h
    split at h
    · simp only [Bool.and_eq_true] at h
      exact s_expr (mE_ok e o.toXOk h.2) (sw_of h.1)
    · cases h
  | .ifS e a b, x, o, h => by
    simp only [mS] at h
    split at h
    · simp only [Bool.and_eq_true] at h
      exact s_if (mE_ok e o.toXOk h.1.1) (mSs_ok a o h.1.2) (mSs_ok b o h.2)
    · cases h
  | .wh e b, x, o, h => by
    simp only [mS] at h
    split at h
    · simp only [Bool.and_eq_true] at h
      exact s_while o.ps (mE_ok e o.toXOk h.1) (mSs_ok b o h.2)
    · cases h
  | .forS tg tup it b, x, o, h => by
    simp only [mS] at h
    split at h
    · simp only [Bool.and_eq_true] at h
      obtain ⟨⟨⟨⟨h1, h2⟩, h0⟩, h3⟩, h4⟩ := h
      have hN : X.N.Nodup := by rw [o.nN]; exact o.nd
      obtain ⟨g1, g2⟩ := tgt_ok2 (X := X) (cs := cs) (nm := nm) hN o.calm (fun y e => by rw [o.nms]; exact e) (fun y e => ⟨by rw [o.nms]; exact e, o.fn y⟩) (by rw [o.nN]; exact h1)
      exact s_for o.ps o.calm (mI_ok it o.toXOk h3 h0) g1 g2 (mSs_ok b o h4) (nSet_of h2)
    · cases h
  | .forP tg tup i b, x, o, h => by
    simp only [mS] at h
    split at h
    · rename_i t y py xs p
      simp only [Bool.and_eq_true, decide_eq_true_eq] at h
      obtain ⟨⟨⟨⟨h1, h2⟩, h0⟩, h3⟩, h4⟩ := h
      have hN : X.N.Nodup := by rw [o.nN]; exact o.nd
      obtain ⟨g1, g2⟩ := tgt_ok2 (X := X) (cs := cs) (nm := nm) hN o.calm (fun y e => by rw [o.nms]; exact e) (fun y e => ⟨by rw [o.nms]; exact e, o.fn y⟩) (by rw [o.nN]; exact h1)
      have hv : mE c (.var i) false nm (.Name y py) = true := by simp only [mE, Bool.and_eq_true, decide_eq_true_eq]; exact ⟨⟨h2, h0⟩, h3⟩
      have he0 : evE C (.var i) = fVar i := by funext env st; rfl
      have hPE := mE_ok (.var i) o.toXOk hv
      have hi : PI X t (.Name y py) (tIG X.K cs (fPl i) (gPl i)) := s_pl (by rw [← he0]; exact hPE)
      have hev : evS C (.forP tg tup i b) = fForG (fPl i) (gPl i) (fun d e => bindT tg tup d e) (fun e s => evSs C b e s) := by
        funext env st
        simp only [evS, fForG, fPl]
        cases hp : plV env i st with
        | none => rfl
        | some r => simp only [Option.bind_some, Option.map_some, gPl_of hp]
      rw [hev]
      exact s_forG o.ps o.calm hi g1 g2 (mSs_ok b o h4) (nSet_of rfl) gPl_0
    · cases h
  | .forD tg tup i b, x, o, h => by
    simp only [mS] at h
    split at h
    · rename_i t y py xs p
      simp only [Bool.and_eq_true, decide_eq_true_eq] at h
      obtain ⟨⟨⟨⟨h1, h2⟩, h0⟩, h3⟩, h4⟩ := h
      have hN : X.N.Nodup := by rw [o.nN]; exact o.nd
      obtain ⟨g1, g2⟩ := tgt_ok2 (X := X) (cs := cs) (nm := nm) hN o.calm (fun y e => by rw [o.nms]; exact e) (fun y e => ⟨by rw [o.nms]; exact e, o.fn y⟩) (by rw [o.nN]; exact h1)
      have hvar : PE X (.Name y py) (tVar i) := by
        obtain ⟨p1, p2⟩ := plainN_of h3
        exact pe_var (by rw [o.nN]; exact h2) (vis_of o.toXOk h0) p1 p2
      have hev : evS C (.forD tg tup i b) = fFor (fKy i) (fun d e => bindT tg tup d e) (fun e s => evSs C b e s) := by
        funext env st
        simp only [evS, fFor, fKy]
        cases hp : kyV env i with
        | none => rfl
        | some r => rfl
      rw [hev]
      exact s_forD o.ps o.calm hvar g1 g2 (mSs_ok b o h4) (nSet_of rfl)
    · cases h
  | .ret e, x, o, h => by
    simp only [mS] at h
    split at h
    · exact s_ret (mE_ok e o.toXOk h)
    · cases h
  | .retN, x, o, h => by
    simp only [mS] at h
    split at h
    · exact s_retN
    · cases h
  | .pass, x, o, h => by
    simp only [mS] at h
    split at h
    · exact s_pass
    · cases h
  | .nev, x, o, h => s_nev
  | .frz i, x, o, h => by
    simp [mS] at h
  | .setA k e w v, x, o, h => by
    simp only [mS] at h
    split at h
    · simp only [Bool.and_eq_true, decide_eq_true_eq] at h
      obtain ⟨⟨⟨⟨h1, h2⟩, h3⟩, h4⟩, h5⟩ := h
      subst h1
      obtain ⟨Ca, g1, g2, g3⟩ := at_of o.toXOk h5
      have hev : evS C (.setA k e w v) = fSetA k (evE C e) w (evE C v) := by funext env st; simp only [evS, fSetA]
      rw [hev]
      exact s_setA g1 g2 g3 (mE_ok e o.toXOk h3) (mE_ok v o.toXOk h4) (sw_of h2)
    · cases h
  | .augA k e w op v, x, o, h => by
    simp only [mS] at h
    split at h
    · simp only [Bool.and_eq_true, decide_eq_true_eq] at h
      obtain ⟨⟨⟨⟨h1, h2⟩, h3⟩, h4⟩, h5⟩ := h
      subst h1
      subst h2
      obtain ⟨Ca, g1, g2, g3⟩ := at_of o.toXOk h5
      have hev : evS C (.augA k e w op v) = fAugA k (evE C e) w op (evE C v) := by funext env st; simp only [evS, fAugA]
      rw [hev]
      exact s_augA g1 g2 g3 (mE_ok e o.toXOk h3) (mE_ok v o.toXOk h4)
    · cases h
theorem mSs_ok : ∀ (ss : List St) {xs : List Stmt}, SOk c cs C d X nm → mSs c ss nm xs = true → PSs X xs (tS X.K cs (evSs C ss))
  | [], xs, o, h => by
    simp only [mSs] at h
    split at h
    · exact ss_nil
    · cases h
  | s :: ss, xs, o, h => by
    simp only [mSs] at h
    split at h
    · exact ss_frz (mSs_ok ss o h)
    · split at h
      · simp only [Bool.and_eq_true] at h
        exact ss_cons (mS_ok s o h.1) (mSs_ok ss o h.2)
      · cases h
end
end
end NK
set_option Elab.async false
set_option linter.all false
set_option autoImplicit false
set_option maxRecDepth 100000
/-! NkQ: functions by depth; a law's end. -/
namespace NK
open PySem PySem.Spec PyProof.Rows L2
section
variable {K : PySem.W.Frag} {cs : Nat → Option Addr} {F B H F' H' : Hp} {as as' : List Addr} {st st' : Sto}
/-- behind a body: its own places are forgotten -/
theorem Ext.cut (x : Ext F as H F' as' H') : Ext F as H F' as H' :=
  ⟨x.ff, List.prefix_refl _, x.fr, x.frA, x.nf, fun _ h h' => absurd h h'⟩
theorem RSt.cut (r : RSt K cs F' B as' st' H') (x : as <+: as') (hl : as.length = st.length) (hi : (st'.take st.length).all flat = true) : RSt K cs F' B as (st'.take st.length) H' := by
  obtain ⟨t, rfl⟩ := x
  refine ⟨r.fh, r.bh, (List.nodup_append.mp r.nd).1, ?_, fun a h => r.nb a (List.mem_append_left _ h), fun l a o e1 e2 => ?_⟩
  · have := r.len
    rw [List.length_append] at this
    rw [List.length_take]
    omega
  · have hlt : l < st.length := by
      rcases Nat.lt_or_ge l st.length with h | h
      · exact h
      · rw [List.getElem?_eq_none (by rw [List.length_take]; omega)] at e2; cases e2
    rw [List.getElem?_take_of_lt hlt] at e2
    obtain ⟨z, ho, e3, e4⟩ := r.obj l a o (by rw [List.getElem?_append_left (by omega)]; exact e1) e2
    have hf := List.all_eq_true.mp hi o (List.mem_of_getElem? (by rw [List.getElem?_take_of_lt hlt]; exact e2))
    exact ⟨z, ho, e3, flat_ook hf e4⟩
end
theorem fzO_flat {o : Obj} {d : D} (h : fzO o = some d) : flat o = true ∧ o ≠ .dead := by
  cases o <;> simp [fzO] at h <;> exact ⟨rfl, by simp⟩
/-- a def as the top has it: its name, its number, its statement, its names, its parameters, where it stands, its qualified name -/
structure DefI where
  name : Str
  idx : Nat
  st : Stmt
  N : List Str
  ps : List Str
  at_ : Str × Option Str
  qual : Str
def DefI.D (d : DefI) : He.DefD := ⟨d.at_, d.name, d.qual, defArgs d.st, defBody d.st, defScope d.st, [], []⟩
/-- the j-th statement of a class's body -/
def clsS (s : Stmt) (j : Nat) : Stmt := match s with
  | .ClassDef _ _ _ b _ _ _ _ _ _ _ => b.getD j s
  | s => s
def scopeB (N ps : List Str) (sc : Scope) : Bool := (match sc.kind with | .function => true | _ => false) && !sc.isCoroutine && !sc.isGenerator && decide N.Nodup && decide (N.take ps.length = ps) &&
  (ps.all fun x => match sc.names.lookup x with | some .local => true | some .cell => true | _ => false) && (sc.names.all fun y => match y.2 with | .free => false | _ => true)
theorem scopeB_ok {N ps : List Str} {sc : Scope} (h : scopeB N ps sc = true) : FnScope N ps sc := by
  unfold scopeB at h
  simp only [Bool.and_eq_true, decide_eq_true_eq, Bool.not_eq_true', List.all_eq_true] at h
  obtain ⟨⟨⟨⟨⟨⟨h1, h2⟩, h3⟩, h4⟩, h5⟩, h6⟩, h7⟩ := h
  refine ⟨?_, h2, h3, h4, h5, fun x hx => ?_, fun y hy e => ?_⟩
  · split at h1
    · assumption
    · cases h1
  · have := h6 x hx
    split at this
    · rename_i e; exact .inl e
    · rename_i e; exact .inr e
    · cases this
  · have := h7 y hy
    rw [e] at this
    cases this
def kB (P : Prog) (i : Nat) : Nat := match P i with
  | some fn => (match fn.kind with
    | .fn => 1
    | .me => 2
    | .mk _ _ => 3)
  | none => 0
/-- the print P d.idx is the def d -/
def okD (P : Prog) (fs : List (Str × Nat × Nat)) (gs : List (Str × K1)) (fr : List Str) (cl : List CI) (d : DefI) : Bool := match P d.idx with
  | some fn => decide (fn.ps = d.ps.length) && decide (fn.ns = d.N.length) && decide (fn.ps ≤ fn.ns) && scopeB d.N d.ps (defScope d.st) && mSs ⟨d.N, fs, gs, fr, cl⟩ fn.body (defScope d.st).names (defBody d.st) && decide (kB P d.idx ≠ 3)
  | none => false
structure DOk (P : Prog) (fs : List (Str × Nat × Nat)) (gs : List (Str × K1)) (fr : List Str) (cl : List CI) (d : DefI) : Prop where
  ok : okD P fs gs fr cl d = true
  bd : ∀ (kV doc pm : Value) (an : Option Addr) (cdv ct : Value) (us : List Value), us.length = d.ps.length → bindArgs (PySem.W.fnOf d.name d.qual (defArgs d.st) (defBody d.st) (defScope d.st) .none kV doc pm an cdv ct) ⟨us, []⟩ = pure (d.ps.zip us)
/-- each function's print is some def's -/
def fsB (P : Prog) (ds : List DefI) (fs : List (Str × Nat × Nat)) : Bool := fs.all fun p => ds.any fun d => decide (d.at_ = (p.1, none)) && decide (d.idx = p.2.1) && decide (d.ps.length = p.2.2) && decide (kB P d.idx = 1)
/-- each method's print too; what makes an instance is its __init__ -/
def clB (P : Prog) (ds : List DefI) (cl : List CI) : Bool := cl.all fun ci => decide ((cl.find? fun z => z.idx == ci.idx).map (·.name) = some ci.name) &&
  (ci.ms.all fun q => ds.any fun d => decide (d.at_ = (ci.name, some (S q.1))) && decide (d.idx = q.2.1) && decide (d.ps.length = q.2.2) && decide (kB P d.idx = 2)) &&
  (match ci.mkr with
  | none => true
  | some q => (match P q.1 with
    | some fn => (match fn.kind with
      | .mk k i => decide (k = ci.idx) && decide (fn.ps = q.2) && ds.any fun d => decide (d.at_ = (ci.name, some ("__init__" : Str))) && decide (d.idx = i) && decide (d.ps.length = q.2 + 1) && decide (kB P d.idx = 2)
      | _ => false)
    | none => false))
theorem call_len {P : Prog} {i : Nat} {n : Nat} {fn : Fn} (h : P i = some fn) (hn : fn.ps = n) : ∀ (d : Nat) a s q, call P d i a s = some q → a.length = n := fun d a s q e => by
  cases d with
  | zero => simp [call] at e
  | succ d =>
    simp only [call, h, Option.bind_some] at e
    split at e
    · simp only [runF] at e
      split at e
      · rename_i z; rw [z, hn]
      · cases e
    · simp only [runM] at e
      split at e
      · rename_i z; rw [z, hn]
      · cases e
    · simp only [runK] at e
      split at e
      · rename_i z; rw [z, hn]
      · cases e
def spK (K : PySem.W.Frag) (cs : Nat → Option Addr) : Kind → Nat → (List Val → Sto → Option (Ret × Sto)) → Sp
  | .fn, n, f => spF K cs n f
  | _, n, f => spM K cs n f
section
variable {Pg : Program} {w : World} {K : PySem.W.Frag} {mg : Str → Option Value} {base : Heap} {cs : Nat → Option Addr} {P : Prog} {fs : List (Str × Nat × Nat)} {gs : List (Str × K1)} {fr : List Str} {cl : List CI} {ds : List DefI}
/-- what the top has left -/
structure TopOk (K : PySem.W.Frag) (mg : Str → Option Value) (cs : Nat → Option Addr) (P : Prog) (fs : List (Str × Nat × Nat)) (gs : List (Str × K1)) (fr : List Str) (cl : List CI) (ds : List DefI) : Prop where
  fd : ∀ d ∈ ds, DOk P fs gs fr cl d ∧ (∃ fd, FunD K d.name d.qual (defArgs d.st) (defBody d.st) (defScope d.st) [] [] (He.fAd K d.at_) fd) ∧ ∀ x, d.at_ = (x, none) → mg x = some (.ref (He.ga K x))
  fs : fsB P ds fs = true
  gs : ∀ p ∈ gs, ∃ u, mg p.1 = some u ∧ RelV (k2V p.2) u
  fr : ∀ x ∈ fr, mg x = none
  cb : clB P ds cl = true
  cl : ∀ ci ∈ cl, cs ci.idx = some (He.ga K ci.name) ∧ Cls K (He.ga K ci.name) ∧ (∀ x ∈ ci.attrs, NoAttr K (He.ga K ci.name) (S x)) ∧ (∀ q ∈ ci.ms, Meth K (He.ga K ci.name) (S q.1) (He.ma K (He.ga K ci.name) (S q.1))) ∧
    (ci.mkr ≠ none → Mk K (He.ga K ci.name) (He.ma K (He.ga K ci.name) "__init__") ∧ mg ci.name = some (.ref (He.ga K ci.name)))
theorem start_rel {F B H : Hp} {as : List Addr} {args : List Val} {vs : List V} {st : Sto} {N : List Str} {fn : Fn} (r : RSt K cs F B as st H) (p : Paired (VOk K F B as) args vs) (hl : args.length = fn.ps) (hN : fn.ns = N.length) (hp : fn.ps ≤ fn.ns) : Rel K cs F B as (startE fn args) st (L2.start N vs) H := by
  have hv : vs.length = args.length := (Paired.len p).symm
  refine { r with slot := fun i v e => ?_, elen := ?_ }
  · unfold startE at e
    unfold L2.start
    by_cases hi : i < args.length
    · rw [List.getElem?_append_left (by rw [List.length_map]; exact hi), List.getElem?_map] at e
      rw [List.getElem?_append_left (by rw [List.length_map]; omega), List.getElem?_map]
      obtain ⟨a, ha, e2⟩ := Option.map_eq_some_iff.mp e
      cases e2
      have : ∀ {xs : List Val} {ys : List V} {j : Nat} {x : Val}, Paired (VOk K F B as) xs ys → xs[j]? = some x → ∃ y, ys[j]? = some y ∧ VOk K F B as x y := by
        intro xs ys j x p
        induction p generalizing j with
        | nil => intro h; simp at h
        | cons q t ih =>
          intro h
          cases j with
          | zero => simp at h; subst h; exact ⟨_, rfl, q⟩
          | succ j => simpa using ih (by simpa using h)
      obtain ⟨u, hu, q⟩ := this p ha
      exact ⟨u, by rw [hu]; rfl, q⟩
    · rw [List.getElem?_append_right (by rw [List.length_map]; omega)] at e
      rw [List.getElem?_replicate] at e
      split at e <;> cases e
  · unfold startE L2.start
    rw [List.length_append, List.length_append, List.length_map, List.length_map, List.length_replicate, List.length_replicate, ← hN, hv]
    omega
theorem kB_fn {i : Nat} {fn : Fn} (h : P i = some fn) (e : kB P i = 1) : fn.kind = .fn := by
  simp only [kB, h] at e
  cases hk : fn.kind <;> rw [hk] at e <;> first | rfl | (simp at e)
theorem kB_me {i : Nat} {fn : Fn} (h : P i = some fn) (e : kB P i = 2) : fn.kind = .me := by
  simp only [kB, h] at e
  cases hk : fn.kind <;> rw [hk] at e <;> first | rfl | (simp at e)
theorem okD_fn {d : DefI} (h : okD P fs gs fr cl d = true) : ∃ fn, P d.idx = some fn ∧ fn.ps = d.ps.length := by
  unfold okD at h
  split at h
  · rename_i fn hfn
    simp only [Bool.and_eq_true, decide_eq_true_eq] at h
    exact ⟨fn, hfn, h.1.1.1.1.1⟩
  · cases h
theorem all_ok (T : TopOk K mg cs P fs gs fr cl ds) (n : Nat) : ∀ (d : DefI), d ∈ ds → ∀ fn fd, P d.idx = some fn → FunD K d.name d.qual (defArgs d.st) (defBody d.st) (defScope d.st) [] [] (He.fAd K d.at_) fd → FnOk Pg w K mg base CX0 n (He.fAd K d.at_) fd d.ps (spK K cs fn.kind d.ps.length (call P n d.idx)) := by
  induction n using Nat.strongRecOn with
  | ind n ih =>
  intro d hd fn fd hfn hF
  have noF : ∀ vs H Q E, ¬ spF K cs d.ps.length (call P 0 d.idx) vs H Q E := fun vs H Q E h => by
    obtain ⟨F, B, as, args, st, r, st', _, _, _, h, _⟩ := h
    simp [call] at h
  have noM : ∀ vs H Q E, ¬ spM K cs d.ps.length (call P 0 d.idx) vs H Q E := fun vs H Q E h => by
    obtain ⟨F, B, as, args, st, r, st', _, _, _, h, _⟩ := h
    simp [call] at h
  cases n with
  | zero =>
    cases hk : fn.kind with
    | fn => exact ⟨fun vs H Q E h => absurd h (noF vs H Q E), fun A outer s H args us vs Q E _ _ _ _ h => absurd h (noF vs H Q E)⟩
    | me => exact ⟨fun vs H Q E h => absurd h (noM vs H Q E), fun A outer s H args us vs Q E _ _ _ _ h => absurd h (noM vs H Q E)⟩
    | mk a b => exact ⟨fun vs H Q E h => absurd h (noM vs H Q E), fun A outer s H args us vs Q E _ _ _ _ h => absurd h (noM vs H Q E)⟩
  | succ n =>
    obtain ⟨⟨ok, bd⟩, _⟩ := T.fd d hd
    unfold okD at ok
    rw [hfn] at ok
    simp only [Bool.and_eq_true, decide_eq_true_eq] at ok
    obtain ⟨⟨⟨⟨⟨o1, o2⟩, o3⟩, o4⟩, o5⟩, o6⟩ := ok
    have sc := scopeB_ok o4
    have raw : ∀ (m : Nat), m ≤ n → ∀ (d' : DefI), d' ∈ ds → kB P d'.idx = 2 → ∃ fa, fa = He.fAd K d'.at_ ∧ FnR Pg w K mg base CX0 m fa (spM K cs d'.ps.length (call P m d'.idx)) := fun m hm d' hd' hk' => by
      obtain ⟨⟨ok', bd'⟩, ⟨fd', hF'⟩, _⟩ := T.fd d' hd'
      obtain ⟨fn', hfn', _⟩ := okD_fn ok'
      have h1 := ih m (by omega) d' hd' fn' fd' hfn' hF'
      rw [kB_me hfn' hk'] at h1
      exact ⟨_, rfl, (h1.raw (hF'.bindsN bd') .nil).imp fun vs H Q E h => by rw [List.append_nil]; exact h⟩
    have hx : ∀ (cdv : Value) (A : Around) (outer : List PySem.Env) (s : Shared) (H : Hp) (E : XK), Room n (A.deeper (envOfC d.qual (defScope d.st) s.heap.objs.size (He.fAd K d.at_) cdv)) → SOk ⟨d.N, fs, gs, fr, cl⟩ cs (call P n) n (cxOf CX0 Pg w K mg base d.N d.qual (defScope d.st) (He.fAd K d.at_) cdv A outer s H E).nox (defScope d.st).names := fun cdv A outer s H E hr => by
      refine ⟨⟨rfl, sc.kind, rfl, sc.nd, rfl, ?_, hr, fun q hq => ?_, T.gs, T.fr, fun ci hc => ?_⟩, fun _ => rfl, PassesOwn.never⟩
      · have := hr.un
        show (A.deeper (envOfC d.qual (defScope d.st) s.heap.objs.size (He.fAd K d.at_) cdv)).units + 200 < cLine
        omega
      · have := List.all_eq_true.mp T.fs q hq
        obtain ⟨d', hd', e⟩ := List.any_eq_true.mp this
        simp only [Bool.and_eq_true, decide_eq_true_eq] at e
        obtain ⟨⟨⟨n1, n2⟩, n3⟩, n4⟩ := e
        obtain ⟨⟨ok', bd'⟩, ⟨fd', hF'⟩, hm'⟩ := T.fd d' hd'
        obtain ⟨fn', hfn', hps'⟩ := okD_fn ok'
        have h1 := ih n (by omega) d' hd' fn' fd' hfn' hF'
        rw [kB_fn hfn' n4] at h1
        have hga : He.fAd K d'.at_ = He.ga K q.1 := by rw [n1]; rfl
        refine ⟨⟨He.fAd K d'.at_, fd', d'.ps, by rw [hga]; exact hm' _ n1, hF'.kp, hF'.bindsN bd', ?_⟩, ?_⟩
        · rw [← n2, ← n3]
          exact h1
        · rw [← n2, ← n3]
          exact call_len hfn' hps' n
      · have hb := List.all_eq_true.mp T.cb ci hc
        simp only [Bool.and_eq_true] at hb
        obtain ⟨⟨_, b1⟩, b2⟩ := hb
        obtain ⟨t1, t2, t3, t4, t5⟩ := T.cl ci hc
        refine ⟨⟨_, t1, t2, t3⟩, fun q hq => ?_, fun q hq => ?_⟩
        · obtain ⟨d', hd', e⟩ := List.any_eq_true.mp (List.all_eq_true.mp b1 q hq)
          simp only [Bool.and_eq_true, decide_eq_true_eq] at e
          obtain ⟨⟨⟨n1, n2⟩, n3⟩, n4⟩ := e
          obtain ⟨fa, hfa, hR⟩ := raw n (Nat.le_refl _) d' hd' n4
          have hma : He.fAd K d'.at_ = He.ma K (He.ga K ci.name) (S q.1) := by rw [n1]; rfl
          obtain ⟨⟨ok', _⟩, _⟩ := T.fd d' hd'
          obtain ⟨fn', hfn', hps'⟩ := okD_fn ok'
          rw [hfa, hma, n2, n3] at hR
          refine ⟨⟨_, _, t1, t2, t4 q hq, hR⟩, ?_⟩
          rw [← n2, ← n3]
          exact call_len hfn' hps' n
        · rw [hq] at b2
          dsimp only at b2
          cases hP : P q.1 with
          | none => rw [hP] at b2; cases b2
          | some fk =>
            rw [hP] at b2
            dsimp only at b2
            split at b2
            case h_2 => cases b2
            rename_i kc ki hkind
            simp only [Bool.and_eq_true, decide_eq_true_eq] at b2
            obtain ⟨⟨c1, c2⟩, c3⟩ := b2
            obtain ⟨d', hd', e⟩ := List.any_eq_true.mp c3
            simp only [Bool.and_eq_true, decide_eq_true_eq] at e
            obtain ⟨⟨⟨n1, n2⟩, n3⟩, n4⟩ := e
            obtain ⟨u1, u2⟩ := t5 (by rw [hq]; simp)
            cases n with
            | zero => exact .inl fun a s => by simp [call]
            | succ m =>
              obtain ⟨fa, hfa, hR⟩ := raw m (Nat.le_succ _) d' hd' n4
              have hma : He.fAd K d'.at_ = He.ma K (He.ga K ci.name) "__init__" := by rw [n1]; rfl
              rw [hfa, hma, n2, n3] at hR
              refine .inr ⟨m, ci.idx, call P m ki, _, _, rfl, t1, u1, u2, hR, fun a s r er => ?_⟩
              simp only [call, hP, Option.bind_some, hkind, runK] at er
              split at er
              case isFalse => cases er
              rename_i hlen
              obtain ⟨⟨r1, s1⟩, e1, e2⟩ := obnd er
              subst c1
              refine ⟨by rw [hlen, c2], s1, ?_⟩
              dsimp only at e2
              split at e2
              · cases e2
                exact ⟨e1, rfl⟩
              · cases e2
    cases hk : fn.kind with
    | fn =>
      show FnOk Pg w K mg base CX0 (n + 1) (He.fAd K d.at_) fd d.ps (spF K cs d.ps.length (call P (n + 1) d.idx))
      refine hF.ok sc (fun vs H Q E h => spF_len h) (fun cdv A outer s H vs Q E hr h => ?_)
      obtain ⟨F, B, as, args, st, ret, st', r, p, hl, ev, k⟩ := h
      simp only [call, hfn, Option.bind_some, hk, runF] at ev
      rw [if_pos (by rw [hl, o1])] at ev
      obtain ⟨⟨ret', s'⟩, ev1, ev2⟩ := obnd ev
      dsimp only at ev2
      split at ev2
      case isFalse => cases ev2
      rename_i hflat
      cases ev2
      obtain ⟨out, e1, e2⟩ := obnd ev1
      refine ⟨_, PSs.nox (mSs_ok fn.body (hx cdv A outer s H E hr) o5), ?_⟩
      refine ⟨F, B, as, startE fn args, st, out, start_rel r p (by rw [hl, o1]) o2 o3, e1, fun e' s2 eo F' as' H' σ' r' x' => ?_, fun v s2 eo F' as' H' u r' x' v' => ?_⟩
      · subst eo
        simp only [endV, Option.some.injEq, Prod.mk.injEq] at e2
        obtain ⟨rfl, rfl⟩ := e2
        exact k F' H' .non (r'.toRSt.cut x'.pre r.len hflat) x'.cut (show Den K F' .non .non from Den.non_iff.mpr rfl)
      · subst eo
        cases v with
        | dat d0 =>
          simp only [endV, Option.some.injEq, Prod.mk.injEq] at e2
          obtain ⟨rfl, rfl⟩ := e2
          exact k F' H' _ (r'.cut x'.pre r.len hflat) x'.cut v'
        | bor d0 => simp [endV] at e2
        | ref l =>
          simp only [endV] at e2
          split at e2
          · cases e2
          · rename_i hlt
            obtain ⟨o, ho, e3⟩ := obnd e2
            split at e3
            case h_2 => cases e3
            rename_i dz hz
            simp only [Option.some.injEq, Prod.mk.injEq] at e3
            obtain ⟨rfl, rfl⟩ := e3
            obtain ⟨a, ea, rfl⟩ := v'
            obtain ⟨z, hob, e4, e5⟩ := r'.obj l a o ea ho
            obtain ⟨f1, f2⟩ := fzO_flat hz
            have am : a ∈ as' := List.mem_of_getElem? ea
            have an : a ∉ as := fun hm => by
              obtain ⟨j, hj, ej⟩ := List.mem_iff_getElem.mp hm
              have e6 := pre_get x'.pre (List.getElem?_eq_getElem hj)
              rw [ej] at e6
              have := nd_ix r'.nd e6 ea
              have := r.len
              omega
            refine k F' H' _ (r'.cut x'.pre r.len hflat) x'.cut ⟨a, hob, rfl, x'.na a am an, z.resolve_left f2, e4, f1, f2, flat_ook f1 e5⟩
    | me =>
      show FnOk Pg w K mg base CX0 (n + 1) (He.fAd K d.at_) fd d.ps (spM K cs d.ps.length (call P (n + 1) d.idx))
      refine hF.ok sc (fun vs H Q E h => spM_len h) (fun cdv A outer s H vs Q E hr h => ?_)
      obtain ⟨F, B, as, args, st, ret, st', r, p, hl, ev, k⟩ := h
      simp only [call, hfn, Option.bind_some, hk, runM] at ev
      rw [if_pos (by rw [hl, o1])] at ev
      obtain ⟨out, e1, e2⟩ := omap ev
      refine ⟨_, PSs.nox (mSs_ok fn.body (hx cdv A outer s H E hr) o5), ?_⟩
      refine ⟨F, B, as, startE fn args, st, out, start_rel r p (by rw [hl, o1]) o2 o3, e1, fun e' s2 eo F' as' H' σ' r' x' => ?_, fun v s2 eo F' as' H' u r' x' v' => ?_⟩
      · subst eo
        simp only [endM, Prod.mk.injEq, Ret.val.injEq] at e2
        obtain ⟨rfl, rfl⟩ := e2
        exact k F' as' H' .non r'.toRSt x' vnon
      · subst eo
        simp only [endM, Prod.mk.injEq, Ret.val.injEq] at e2
        obtain ⟨rfl, rfl⟩ := e2
        exact k F' as' H' u r' x' v'
    | mk a b =>
      exfalso
      apply o6
      unfold kB
      rw [hfn]
      dsimp only
      rw [hk]
end
end NK
set_option Elab.async false
set_option linter.all false
set_option autoImplicit false
set_option maxRecDepth 100000
/-! NkR: a law's end. -/
namespace NK
open PySem PySem.Spec PyProof.Rows L2
theorem nk_walk {l : PySem.W.OpenLaw} {k : Nat} {q : Program} {loose : List Str} {XP : (Str → Option Value) → Heap → Prop} {YP : World → Heap → Prop} {dr : DefRec} {P : Prog} {dl : DefI} {x : Str}
    (hn : l.most = some 63) (hdf : dr.params.defaults = []) (hr : Room k callerA) (hname : dr.name = dl.name) (hps : dl.ps = [x]) (hat : dl.at_ = (dl.name, none)) (hk : kB P dl.idx = 1)
    (T : ∀ (w : World) (mg : Str → Option Value) (h : Heap), YP w h → h.Ns mainGlobals mg → ∃ (K : PySem.W.Frag) (cs : Nat → Option Addr) (fs : List (Str × Nat × Nat)) (gs : List (Str × K1)) (fr : List Str) (cl : List CI) (ds : List DefI), K.In h ∧ TopOk K mg cs P fs gs fr cl ds ∧ dl ∈ ds)
    (main : ∀ ns : List Int, ns.length ≤ 63 → (∀ z ∈ ns, Builtin.Int.intBits z ≤ 1048576) → call P k dl.idx [.dat (.scr ns)] [] = some (.dat (.bl true), [])) :
    PySem.W.WalkO q loose XP YP l.row.toRowW dr [] (fun f vs => PySem.call f vs) := by
  refine Att.attach_callB hn hdf fun w s₀ s₁ mg mb fa o pm cd doc a vs ns G Y ho hd hcd hmg hobj hints hlen hbits hg => ?_
  obtain ⟨K, cs, fs, gs, fr, cl, ds, KX, T1, hdl⟩ := T w mg _ Y G.T.g
  obtain ⟨⟨ok, bd⟩, ⟨fd, hF⟩, hm⟩ := T1.fd dl hdl
  rw [hname, hm _ hat] at hmg
  have hga : He.fAd K dl.at_ = He.ga K dl.name := by rw [hat]; rfl
  rw [← hga] at hmg
  cases hmg
  obtain ⟨fn, hfn, _⟩ := okD_fn ok
  refine law_call (x := x) (CX := CX0) (fd := fd) (k := k) (sp := spF K cs dl.ps.length (call P k dl.idx)) KX G.T.g G.T.b G.T.builtins G.T.nolimit hg hobj hints (Nat.le_trans hlen (by decide)) hr (fun base hK hB => ?_) (fun s v => ?_) (fun H hO hS => ?_) fun H e s' z => z
  · have := all_ok (Pg := l.prog) (w := w) (base := base) T1 k dl hdl fn fd hfn hF
    rw [kB_fn hfn hk] at this
    rw [hps] at this ⊢
    exact this
  · have := hF.bindsA bd s [v] (by rw [hps]; rfl)
    rw [hps] at this
    exact this
  · refine ⟨H, fun _ => none, [], [.dat (.scr ns)], [], .dat (.bl true), [], ⟨fun _ _ h => h, fun _ _ h => (by cases h), List.nodup_nil, rfl, fun _ h => (nomatch h), fun l a o h => (by simp at h)⟩, .cons (Den.scr_iff.mpr ⟨a, rfl, hS⟩) .nil, by rw [hps]; rfl, main ns hlen hbits, fun F' H' u r x q => ?_⟩
    have q' : Den K F' (.bl true) u := q
    exact Den.bl_iff.mp q'
/-- the head's facts are what the functions want -/
def clFa (ci : CI) : List He.Fa := [.cls ci.name] ++ ci.attrs.map (fun x => .noat ci.name (S x)) ++ ci.ms.map (fun q => .meth ci.name (S q.1)) ++ (match ci.mkr with
  | some _ => [.mkr ci.name, .glo ci.name]
  | none => [])
def faOf (ds : List DefI) (gs : List (Str × K1)) (fr : List Str) (cl : List CI) : List He.Fa := (ds.filterMap fun d => match d.at_.2 with
  | none => some (.glo d.at_.1)
  | some _ => none) ++ gs.map (fun p => match p.2 with | .inl i => .int p.1 i | .inr w => .str p.1 (S w)) ++ fr.map .free ++ cl.flatMap clFa
def csOf (K : PySem.W.Frag) (cl : List CI) : Nat → Option Addr := fun i => ((cl.find? fun z => z.idx == i).map (·.name)).map (He.ga K)
theorem top_ok {K : PySem.W.Frag} {mg : Str → Option Value} {h : Heap} {P : Prog} {fs : List (Str × Nat × Nat)} {gs : List (Str × K1)} {fr : List Str} {cl : List CI} {ds : List DefI} (X : K.In h) (G : h.Ns mainGlobals mg) (c : He.SaysD (faOf ds gs fr cl) (ds.map DefI.D) K) (ok : ∀ d ∈ ds, DOk P fs gs fr cl d) (hfs : fsB P ds fs = true) (hcl : clB P ds cl = true) : TopOk K mg (csOf K cl) P fs gs fr cl ds := by
  have fact : ∀ f ∈ faOf ds gs fr cl, f.ok K = true := fun f hf => by
    obtain ⟨i, hi, e⟩ := List.mem_iff_getElem.mp hf
    exact c.fact i (by rw [List.getElem?_eq_getElem hi, e])
  have factC : ∀ ci ∈ cl, ∀ f ∈ clFa ci, f.ok K = true := fun ci hc f hf => fact f (by
    unfold faOf
    exact List.mem_append_right _ (List.mem_flatMap.mpr ⟨ci, hc, hf⟩))
  refine ⟨fun d hd => ⟨ok d hd, ?_, fun x hx => ?_⟩, hfs, fun p hp => ?_, fun x hx => ?_, hcl, fun ci hc => ⟨?_, ?_, fun x hx => ?_, fun q hq => ?_, fun hm => ?_⟩⟩
  · obtain ⟨i, hi, e⟩ := List.mem_iff_getElem.mp hd
    obtain ⟨fd, hF⟩ := c.def_ i (d := d.D) (by rw [List.getElem?_map, List.getElem?_eq_getElem hi, e]; rfl)
    exact ⟨fd, hF⟩
  · exact He.glo_ok X G (fact (.glo x) (by
      unfold faOf
      simp only [List.mem_append, List.mem_map, List.mem_filterMap]
      exact .inl (.inl (.inl ⟨d, hd, by rw [hx]⟩))))
  · obtain ⟨y, k⟩ := p
    cases k with
    | inl i =>
      obtain ⟨t, ht⟩ := He.int_ok X G (fact (.int y i) (by unfold faOf; simp only [List.mem_append, List.mem_map]; exact .inl (.inl (.inr ⟨_, hp, rfl⟩))))
      exact ⟨_, ht, ⟨t, rfl⟩⟩
    | inr w =>
      obtain ⟨t, ht⟩ := He.str_ok X G (fact (.str y (S w)) (by unfold faOf; simp only [List.mem_append, List.mem_map]; exact .inl (.inl (.inr ⟨_, hp, rfl⟩))))
      exact ⟨_, ht, ⟨t, rfl⟩⟩
  · exact He.free_ok X G (fact (.free x) (by unfold faOf; simp only [List.mem_append, List.mem_map]; exact .inl (.inr ⟨x, hx, rfl⟩)))
  · have hb := List.all_eq_true.mp hcl ci hc
    simp only [Bool.and_eq_true, decide_eq_true_eq] at hb
    unfold csOf
    rw [hb.1.1]
    rfl
  · exact He.cls_ok (factC ci hc (.cls ci.name) (by unfold clFa; simp))
  · exact He.noat_ok (factC ci hc (.noat ci.name (S x)) (by
      unfold clFa
      simp only [List.mem_append, List.mem_map]
      exact .inl (.inl (.inr ⟨x, hx, rfl⟩))))
  · exact He.meth_ok (factC ci hc (.meth ci.name (S q.1)) (by
      unfold clFa
      simp only [List.mem_append, List.mem_map]
      exact .inl (.inr ⟨q, hq, rfl⟩)))
  · cases hmk : ci.mkr with
    | none => exact absurd hmk hm
    | some q =>
      exact ⟨He.mkr_ok (factC ci hc (.mkr ci.name) (by unfold clFa; rw [hmk]; simp)), He.glo_ok X G (factC ci hc (.glo ci.name) (by unfold clFa; rw [hmk]; simp))⟩
end NK
set_option Elab.async false
set_option linter.all false
set_option autoImplicit false
set_option maxRecDepth 100000
/-! NkS: lemmas for reckoning with prints. -/
namespace NK
open PySem L2
/-! ### sizes -/
def Bd (n : Nat) (i : Int) : Prop := i.natAbs < 2 ^ n
theorem Bd.mono {m n : Nat} {i : Int} (h : Bd m i) (hmn : m ≤ n) : Bd n i := Nat.lt_of_lt_of_le h (Nat.pow_le_pow_right (by decide) hmn)
theorem Bd.mul {m n : Nat} {i j : Int} (h : Bd m i) (k : Bd n j) : Bd (m + n) (i * j) := by
  unfold Bd at *
  rw [Int.natAbs_mul, Nat.pow_add]
  rcases Nat.eq_zero_or_pos i.natAbs with e | e
  · rw [e, Nat.zero_mul]
    exact Nat.mul_pos (Nat.two_pow_pos _) (Nat.two_pow_pos _)
  · exact Nat.mul_lt_mul_of_lt_of_le h (Nat.le_of_lt k) (Nat.two_pow_pos _)
theorem Bd.add {m n : Nat} {i j : Int} (h : Bd m i) (k : Bd n j) : Bd (max m n + 1) (i + j) := by
  have h1 := h.mono (Nat.le_max_left m n)
  have k1 := k.mono (Nat.le_max_right m n)
  unfold Bd at *
  rw [Nat.pow_succ]
  omega
theorem Bd.neg {n : Nat} {i : Int} (h : Bd n i) : Bd n (-i) := by
  unfold Bd at *
  rw [Int.natAbs_neg]; exact h
theorem Bd.sub {m n : Nat} {i j : Int} (h : Bd m i) (k : Bd n j) : Bd (max m n + 1) (i - j) := by
  rw [Int.sub_eq_add_neg]
  exact h.add k.neg
theorem Bd.of_le {n : Nat} {i : Int} {b : Nat} (h : i.natAbs ≤ b) (hb : b < 2 ^ n) : Bd n i := Nat.lt_of_le_of_lt h hb
theorem Bd.le_of {n : Nat} {i j : Int} (h : Bd n j) (hb : i.natAbs ≤ j.natAbs) : Bd n i := Nat.lt_of_le_of_lt hb h
theorem log2_lt_of {n k : Nat} (hn : 0 < n) (h : k < 2 ^ n) : k.log2 < n := by
  by_cases h0 : k = 0
  · subst h0; exact hn
  · exact (Nat.log2_lt h0).mpr h
theorem okMul_bd {m n : Nat} {i j : Int} (h : Bd m i) (k : Bd n j) (hm : m + n < 100000000 := by decide) : okMul i j = true := by
  unfold okMul
  have h1 : i.natAbs.log2 ≤ m := by
    by_cases h0 : i.natAbs = 0
    · rw [h0]; exact Nat.zero_le _
    · exact Nat.le_of_lt ((Nat.log2_lt h0).mpr h)
  have h2 : j.natAbs.log2 ≤ n := by
    by_cases h0 : j.natAbs = 0
    · rw [h0]; exact Nat.zero_le _
    · exact Nat.le_of_lt ((Nat.log2_lt h0).mpr k)
  exact decide_eq_true (by omega)
theorem okDiv_bd {n : Nat} {j : Int} (h0 : j ≠ 0) (h : Bd n j) (hn : n ≤ 9000 := by decide) : okDiv j = true := by
  unfold okDiv
  rw [Bool.and_eq_true]
  exact ⟨decide_eq_true h0, decide_eq_true (log2_lt_of (by decide) (h.mono hn))⟩
theorem okPow_of {i j : Int} (h0 : 0 ≤ j := by decide) (h1 : j ≤ 1000000 := by decide) (h2 : i.natAbs < 2 ^ 64 := by decide) : okPow i j = true := by
  unfold okPow
  rw [decide_eq_true h0, decide_eq_true h1, decide_eq_true h2]
  rfl
theorem bd_intBits {z : Int} {n : Nat} (h : PySem.Builtin.Int.intBits z ≤ n) : Bd n z := by
  unfold PySem.Builtin.Int.intBits at h
  unfold Bd
  split at h
  · rename_i e
    simp at e
    rw [e]
    simpa using Nat.two_pow_pos n
  · exact Nat.lt_of_lt_of_le Nat.lt_log2_self (Nat.pow_le_pow_right (by decide) h)
/-! ### runs of statements -/
section
variable (c : Env → Sto → Option (Bool × Sto)) (b : Env → Sto → Option Out)
theorem whV_f {env : Env} {st st' : Sto} (h : c env st = some (false, st')) : whV c b env st = some (.nx env st') := by
  rw [whV_eq, h]; rfl
theorem whV_t {env e : Env} {st st' s : Sto} (h : c env st = some (true, st')) (hb : b env st' = some (.nx e s)) : whV c b env st = whV c b e s := by
  rw [whV_eq, h]
  simp only [Option.bind_some, if_true, hb]
theorem whV_r {env : Env} {st st' s : Sto} {v : Val} (h : c env st = some (true, st')) (hb : b env st' = some (.rt v s)) : whV c b env st = some (.rt v s) := by
  rw [whV_eq, h]
  simp only [Option.bind_some, if_true, hb]
end
/-- a loop by an invariant over how many turns are done -/
theorem forV_inv {bind : D → Env → Option Env} {body : Env → Sto → Option Out} (I : Nat → Env → Sto → Prop) : ∀ {ds : List D} {k : Nat} {env : Env} {st : Sto}, I k env st →
    (∀ i d env st, ds[i]? = some d → I (k + i) env st → ∃ e1 e s, bind d env = some e1 ∧ body e1 st = some (.nx e s) ∧ I (k + i + 1) e s) → ∃ e s, forV bind body ds env st = some (.nx e s) ∧ I (k + ds.length) e s
  | [], k, env, st, h, _ => ⟨env, st, rfl, h⟩
  | d :: ds, k, env, st, h, hs => by
    obtain ⟨e1, e, s, h1, h2, h3⟩ := hs 0 d env st rfl h
    obtain ⟨e', s', h4, h5⟩ := forV_inv I (ds := ds) (k := k + 1) (env := e) (st := s) h3 fun i d' env st hi hI => by
      have := hs (i + 1) d' env st (by simpa using hi) (by rw [show k + (i + 1) = k + 1 + i by omega]; exact hI)
      rw [show k + (i + 1) + 1 = k + 1 + i + 1 by omega] at this
      exact this
    refine ⟨e', s', ?_, by rw [List.length_cons, show k + (ds.length + 1) = k + 1 + ds.length by omega]; exact h5⟩
    simp only [forV, h1, h2, Option.bind_some, h4]
theorem rngL_get {lo hi : Int} {i : Nat} {d : D} (h : (rngL lo hi)[i]? = some d) : d = .int (lo + i) ∧ (i : Int) < hi - lo := by
  unfold rngL at h
  rw [List.getElem?_map] at h
  obtain ⟨c', hc', e⟩ := Option.map_eq_some_iff.mp h
  obtain ⟨hlt, e2⟩ := List.getElem?_eq_some_iff.mp hc'
  rw [List.getElem_range] at e2
  subst e2
  rw [List.length_range] at hlt
  exact ⟨e.symm, by omega⟩
theorem rngL_len {lo hi : Int} : (rngL lo hi).length = (hi - lo).toNat := by unfold rngL; simp
theorem rngOk_small {lo hi : Int} (h1 : -1000000 ≤ lo) (h2 : hi ≤ 1000000) (h3 : -1000000 ≤ hi) (h4 : lo ≤ 1000000) : rngOk lo hi = true := by
  unfold rngOk LIM
  simp only [Bool.and_eq_true, decide_eq_true_eq]
  omega
/-- what a call comes to -/
theorem call_run {P : Prog} {d i : Nat} {fn : Fn} {args : List Val} {st s : Sto} {o : Out} {q : Ret × Sto} (hP : P i = some fn) (hl : args.length = fn.ps) (hb : evSs (call P d) fn.body (startE fn args) st = some o) (he : endV st.length o = some q) (hf : q.2.all flat = true) (hk : fn.kind = .fn := by rfl) : call P (d + 1) i args st = some q := by
  simp only [call, hP, Option.bind_some, hk, runF, if_pos hl, hb, he, if_pos hf]
end NK
set_option Elab.async false
set_option linter.all false
set_option autoImplicit false
set_option maxRecDepth 100000
/-! NkT: the small language's rules as rewriting rules. -/
namespace NK
open PySem L2
/-- an equation that is used step by step, never by unfolding -/
theorem nr {α : Sort _} {a b : α} (h : a = b) : a = b := h
@[simp high] theorem ob_some {α β : Type} {a : α} {f : α → Option β} : (some a).bind f = f a := nr rfl
@[simp high] theorem om_some {α β : Type} {a : α} {f : α → β} : (some a).map f = some (f a) := nr rfl
section
variable {C : Calls} {env : Env} {st : Sto}
@[simp] theorem e_int {i : Int} : evE C (.int i) env st = some (.dat (.int i), st) := nr rfl
@[simp] theorem e_bl {i : Bool} : evE C (.bl i) env st = some (.dat (.bl i), st) := nr rfl
@[simp] theorem e_non : evE C .non env st = some (.dat .non, st) := nr rfl
@[simp] theorem e_str {i : W} : evE C (.str i) env st = some (.dat (.str i), st) := nr rfl
@[simp] theorem e_var {i : Nat} : evE C (.var i) env st = (match env[i]? with | some (some v) => some (v, st) | _ => none) := nr rfl
@[simp] theorem e_gl {w : W} {d : D} : evE C (.gl w d) env st = some (.dat d, st) := nr rfl
@[simp] theorem e_tup {es : List E} : evE C (.tup es) env st = (evEs C es env st).bind fun r => (toDs r.1 r.2).map fun q => (.dat (.tup q.1), q.2) := nr rfl
@[simp] theorem e_bin {o : BOp} {a b : E} : evE C (.bin o a b) env st = (evE C a env st).bind fun r => (evE C b env r.2).bind fun q => (binV o r.1 q.1 q.2).map fun v => (v, q.2) := nr rfl
@[simp] theorem e_neg {a : E} : evE C (.neg a) env st = (evE C a env st).bind fun r => (intOf r.1).map fun i => (.dat (.int (-i)), r.2) := nr rfl
@[simp] theorem e_not {a : E} : evE C (.not a) env st = ((evE C a env st).bind boolR).map fun r => (.dat (.bl (!r.1)), r.2) := nr rfl
@[simp] theorem e_and {a b : E} : evE C (.and a b) env st = ((evE C a env st).bind boolR).bind fun r => if r.1 then evE C b env r.2 else some (.dat (.bl false), r.2) := nr rfl
@[simp] theorem e_or {a b : E} : evE C (.or a b) env st = ((evE C a env st).bind boolR).bind fun r => if r.1 then some (.dat (.bl true), r.2) else evE C b env r.2 := nr rfl
@[simp] theorem e_cmp {o : COp} {a b : E} : evE C (.cmp o a b) env st = (evE C a env st).bind fun r => (evE C b env r.2).bind fun q => (cmpV o r.1 q.1 q.2).map fun c => (.dat (.bl c), q.2) := nr rfl
@[simp] theorem e_chain {o o' : COp} {a b c : E} : evE C (.chain o o' a b c) env st = (evE C a env st).bind fun r => (evE C b env r.2).bind fun q => (cmpV o r.1 q.1 q.2).bind fun t =>
      if t then (evE C c env q.2).bind fun s => (cmpV o' q.1 s.1 s.2).map fun t => (.dat (.bl t), s.2) else some (.dat (.bl false), q.2) := nr rfl
@[simp] theorem e_ite {c a b : E} : evE C (.ite c a b) env st = ((evE C c env st).bind boolR).bind fun r => if r.1 then evE C a env r.2 else evE C b env r.2 := nr rfl
@[simp] theorem e_idx {a i : E} : evE C (.idx a i) env st = (evE C a env st).bind fun r => (evE C i env r.2).bind fun q => (idxV r.1 q.1 q.2).map fun d => (.dat d, q.2) := nr rfl
@[simp] theorem e_slc {a : E} {lo hi : Option E} : evE C (.slc a lo hi) env st = (evE C a env st).bind fun r => (evP C lo env r.2).bind fun l => (evP C hi env l.2).bind fun h => (slcV r.1 l.1 h.1 h.2).map fun d => (.dat d, h.2) := nr rfl
/-- a call's own value, as data -/
def kept (q : Ret × Sto) : Option (Val × Sto) := match q.1 with
  | .dat d => some (.dat d, q.2)
  | .own o => (fzO o).map fun d => (.dat d, q.2)
  | .val _ => none
@[simp] theorem kept_dat {d : D} : kept (.dat d, st) = some (.dat d, st) := nr rfl
@[simp] theorem kept_own {o : Obj} : kept (.own o, st) = (fzO o).map fun d => (.dat d, st) := nr rfl
@[simp] theorem e_call {f : Nat} {m : List Bool} {es : List E} : evE C (.call f m es) env st = (evEs C es env st).bind fun r => (callV C f m r.1 r.2).bind kept := by
  show (evEs C es env st).bind _ = _
  congr 1
def taken' (q : Ret × Sto) : Option (Val × Sto) := match q.1 with
  | .dat _ => none
  | .own o => some (.ref q.2.length, q.2 ++ [o])
  | .val _ => none
@[simp] theorem taken_own {o : Obj} : taken' (.own o, st) = some (.ref st.length, st ++ [o]) := nr rfl
@[simp] theorem e_callA {f : Nat} {m : List Bool} {es : List E} : evE C (.callA f m es) env st = (evEs C es env st).bind fun r => (callV C f m r.1 r.2).bind taken' := by
  show (evEs C es env st).bind _ = _
  congr 1
@[simp] theorem e_bi {b : Bi} {es : List E} : evE C (.bi b es) env st = (evEs C es env st).bind fun r => (biV b r.1 r.2).map fun d => (.dat d, r.2) := nr rfl
@[simp] theorem e_mt {m : Mt} {o : E} {es : List E} : evE C (.mt m o es) env st = (evE C o env st).bind fun r => (evEs C es env r.2).bind fun q => if kindV r.2 r.1 = kindV q.2 r.1 then mtV m r.1 q.1 q.2 else none := nr rfl
@[simp] theorem e_isi {a : E} {t : Ty} : evE C (.isi a [t]) env st = (evE C a env st).bind fun r => (snap r.2 r.1).bind fun d => (isTy d t).map fun b => (.dat (.bl b), r.2) := by
  show (evE C a env st).bind _ = _
  congr 1
  funext r
  congr 1
  funext q
  simp only [anyTy]
  cases isTy q t <;> simp
@[simp] theorem e_fz {o : O} : evE C (.fz o) env st = (evO C o env st).bind fun r => (fzO r.1).map fun d => (.dat d, r.2) := nr rfl
@[simp] theorem e_new {o : O} : evE C (.new o) env st = (evO C o env st).map fun r => (.ref r.2.length, r.2 ++ [r.1]) := nr rfl
@[simp] theorem e_attr {c : Nat} {a : E} {x : W} : evE C (.attr c a x) env st = (evE C a env st).bind fun r => ((insV c r.1 r.2).bind fun fs => fs.lookup x).map fun v => (v, r.2) := nr rfl
@[simp] theorem e_meth {c f : Nat} {x : W} {o : E} {es : List E} : evE C (.meth c f x o es) env st = (evE C o env st).bind fun r => (insV c r.1 r.2).bind fun fs => if (fs.lookup x).isSome then none else
      (evEs C es env r.2).bind fun q => (C f (r.1 :: q.1) q.2).bind valR := nr rfl
@[simp] theorem e_make {g : Nat} {es : List E} : evE C (.make g es) env st = (evEs C es env st).bind fun q => (C g q.1 q.2).bind valR := nr rfl
@[simp] theorem valR_val {v : Val} : valR (.val v, st) = some (v, st) := nr rfl
@[simp] theorem ins_ref {c l : Nat} : insV c (.ref l) st = (match st[l]? with
    | some (.ins c' fs) => if c' = c then some fs else none
    | _ => none) := nr rfl
@[simp] theorem setAV_ref {c l : Nat} {x : W} {v : Val} : setAV c x (.ref l) v st = (match st[l]? with
    | some (.ins c' fs) => if c' = c ∧ fs.length < 900 then some (st.set l (.ins c' (putA x v fs))) else none
    | _ => none) := nr rfl
@[simp] theorem st_setA {c : Nat} {o v : E} {x : W} : evS C (.setA c o x v) env st = (evE C v env st).bind fun r => (evE C o env r.2).bind fun q => (setAV c x q.1 r.1 q.2).map fun s => .nx env s := nr rfl
@[simp] theorem st_augA {c : Nat} {o v : E} {x : W} {op : BOp} : evS C (.augA c o x op v) env st = (evE C o env st).bind fun r => ((insV c r.1 r.2).bind fun fs => (fs.lookup x).bind intOf).bind fun i => (evE C v env r.2).bind fun q => (intOf q.1).bind fun j => (augV op i j).bind fun k => (setAV c x r.1 (.dat (.int k)) q.2).map fun s => .nx env s := nr rfl
@[simp] theorem augV_add {i j : Int} : augV .add i j = some (i + j) := nr rfl
@[simp] theorem augV_sub {i j : Int} : augV .sub i j = some (i - j) := nr rfl
@[simp] theorem es_nil : evEs C [] env st = some ([], st) := nr rfl
@[simp] theorem es_cons {e : E} {es : List E} : evEs C (e :: es) env st = (evE C e env st).bind fun r => (evEs C es env r.2).map fun q => (r.1 :: q.1, q.2) := nr rfl
@[simp] theorem p_none : evP C none env st = some (none, st) := nr rfl
@[simp] theorem p_some {e : E} : evP C (some e) env st = (evE C e env st).bind fun r => (intOf r.1).map fun i => (some i, r.2) := nr rfl
/-- a comprehension -/
noncomputable def COMP (C : Calls) (elt : E) (tg : List Nat) (tup : Bool) (c : Option E) (own : List Nat) (ds : List D) (env : Env) (st : Sto) : Option (List D × Sto) :=
  compV own (wipeE env own) (fun d e => bindT tg tup d e) (fun e s => evC C c e s) (fun e s => evE C elt e s) ds st
@[simp] theorem o_lst {es : List E} : evO C (.lst es) env st = (evEs C es env st).bind fun r => (toDs r.1 r.2).map fun q => (.lst q.1, q.2) := nr rfl
@[simp] theorem o_dic {kvs : List E} : evO C (.dic kvs) env st = (evKV C kvs env st).map fun r => (.dK r.1.1 r.1.2, r.2) := nr rfl
@[simp] theorem o_dicT : evO C .dicT env st = some (.dT [] [], st) := nr rfl
@[simp] theorem o_comp {elt : E} {tg : List Nat} {tup : Bool} {it : I} {c : Option E} {own : List Nat} : evO C (.comp elt tg tup it c own) env st = (evI C it env st).bind fun r => (COMP C elt tg tup c own r.1 env r.2).map fun q => (.lst q.1, q.2) := nr rfl
/-- .. over a place's list -/
noncomputable def COMPP (C : Calls) (elt : E) (tg : List Nat) (tup : Bool) (c : Option E) (own : List Nat) (l : Nat) (ds0 ds : List D) (env : Env) (st : Sto) : Option (List D × Sto) :=
  compG (lstS l ds0) own (wipeE env own) (fun d e => bindT tg tup d e) (fun e s => evC C c e s) (fun e s => evE C elt e s) ds st
@[simp] theorem o_compP {elt : E} {tg : List Nat} {tup : Bool} {i : Nat} {c : Option E} {own : List Nat} : evO C (.compP elt tg tup i c own) env st = (plV env i st).bind fun r => (COMPP C elt tg tup c own r.1 r.2 r.2 env st).map fun q => (.lst q.1, q.2) := nr rfl
@[simp] theorem o_compD {elt : E} {tg : List Nat} {tup : Bool} {i : Nat} {c : Option E} {own : List Nat} : evO C (.compD elt tg tup i c own) env st = (kyV env i).bind fun r => (COMP C elt tg tup c own r env st).map fun q => (.lst q.1, q.2) := nr rfl
@[simp] theorem o_list {a : E} : evO C (.list a) env st = (evE C a env st).bind fun r => (asLS r.2 r.1).map fun ds => (.lst ds, r.2) := nr rfl
@[simp] theorem o_dict {a : E} : evO C (.dict a) env st = (evE C a env st).bind fun r => (asDK r.2 r.1).map fun q => (.dK q.1 q.2, r.2) := nr rfl
@[simp] theorem o_cut {a : E} {lo hi : Option E} : evO C (.cut a lo hi) env st = (evE C a env st).bind fun r => (evP C lo env r.2).bind fun l => (evP C hi env l.2).bind fun h => (asL h.2 r.1).map fun ds => (.lst (cutL ds l.1 h.1), h.2) := nr rfl
@[simp] theorem o_cat {a b : E} : evO C (.cat a b) env st = (evE C a env st).bind fun r => (evE C b env r.2).bind fun q => (asX q.2 r.1).bind fun xs => (asX q.2 q.1).bind fun ys =>
      if xs.length + ys.length ≤ LIM then some (.lst (xs ++ ys), q.2) else none := nr rfl
@[simp] theorem o_rep {a b : E} : evO C (.rep a b) env st = (evE C a env st).bind fun r => (evE C b env r.2).bind fun q => (asX q.2 r.1).bind fun xs => (intOf q.1).bind fun k =>
      if xs.length * k.toNat ≤ LIM ∧ -(2 ^ 63) ≤ k ∧ k < 2 ^ 63 then some (.lst (List.replicate k.toNat xs).flatten, q.2) else none := nr rfl
@[simp] theorem o_evn {a : E} : evO C (.evn a) env st = (evE C a env st).bind fun r => (asL r.2 r.1).map fun ds => (.lst (evens ds), r.2) := nr rfl
@[simp] theorem kv_cons' {k v : E} {r : List E} : evKV C (k :: v :: r) env st = (evE C k env st).bind fun x => (evE C v env x.2).bind fun y => (toD y.1 y.2).bind fun p => (evKV C r env p.2).bind fun t => (keyR x.1).bind fun k =>
      if (dlook t.1.1 t.1.2 k).isSome then none else some ((k :: t.1.1, p.1 :: t.1.2), t.2) := nr rfl
@[simp] theorem kv_nil' : evKV C [] env st = some (([], []), st) := nr rfl
@[simp] theorem i_e {a : E} : evI C (.e a) env st = (evE C a env st).bind fun r => (itV r.1).map fun ds => (ds, r.2) := nr rfl
@[simp] theorem i_rng {es : List E} : evI C (.rng es) env st = (evEs C es env st).bind fun r => (rngV r.1).map fun ds => (ds, r.2) := nr rfl
@[simp] theorem i_enum {a : E} : evI C (.enum a) env st = (evE C a env st).bind fun r => (itQ r.1).map fun ds => (enumL 0 ds, r.2) := nr rfl
@[simp] theorem i_zip {a b : E} : evI C (.zip a b) env st = (evE C a env st).bind fun r => (evE C b env r.2).bind fun q => (itZ r.1 q.1).map fun ds => (ds, q.2) := nr rfl
@[simp] theorem i_rev {a : E} : evI C (.rev a) env st = (evE C a env st).bind fun r => (itV r.1).map fun ds => (ds.reverse, r.2) := nr rfl
@[simp] theorem i_revr {es : List E} : evI C (.revr es) env st = (evEs C es env st).bind fun r => (rngV r.1).map fun ds => (ds.reverse, r.2) := nr rfl
/-! ### statements -/
noncomputable def WH (C : Calls) (c : E) (b : List St) (env : Env) (st : Sto) : Option Out := whV (fun e s => (evE C c e s).bind boolR) (fun e s => evSs C b e s) env st
noncomputable def FOR (C : Calls) (tg : List Nat) (tup : Bool) (b : List St) (ds : List D) (env : Env) (st : Sto) : Option Out := forV (fun d e => bindT tg tup d e) (fun e s => evSs C b e s) ds env st
@[simp] theorem st_set {i : Nat} {e : E} : evS C (.set i e) env st = (evE C e env st).map fun r => .nx (env.set i (some r.1)) r.2 := nr rfl
@[simp] theorem st_setT {is : List Nat} {e : E} : evS C (.setT is e) env st = (evE C e env st).bind fun r => (asU r.1).bind fun ds => (bindT.go is ds env).map fun e1 => .nx e1 r.2 := nr rfl
@[simp] theorem st_par {i j : Nat} {a b : E} : evS C (.par i j a b) env st = (evE C a env st).bind fun r => (evE C b env r.2).map fun q => .nx ((env.set i (some r.1)).set j (some q.1)) q.2 := nr rfl
@[simp] theorem st_sub {o k v : E} : evS C (.sub o k v) env st = (evE C v env st).bind fun r => (toD r.1 r.2).bind fun d => (evE C o env d.2).bind fun p => (evE C k env p.2).bind fun q => (storeV p.1 q.1 d.1 q.2).map fun s => .nx env s := nr rfl
@[simp] theorem st_aug {i : Nat} {o : BOp} {e : E} : evS C (.aug i o e) env st = (match env[i]? with
    | some (some (.dat (.int x))) => (evE C e env st).bind fun r => (intOf r.1).bind fun y => (match o with
      | .add => some (.nx (env.set i (some (.dat (.int (x + y))))) r.2)
      | .sub => some (.nx (env.set i (some (.dat (.int (x - y))))) r.2)
      | _ => none)
    | _ => none) := nr rfl
@[simp] theorem st_ext {i : Nat} {e : E} : evS C (.ext i e) env st = (match env[i]? with
    | some (some (.ref l)) => (evE C e env st).bind fun r => (extV l r.1 r.2).map fun s => .nx env s
    | _ => none) := nr rfl
@[simp] theorem st_expr {e : E} : evS C (.expr e) env st = (evE C e env st).map fun r => .nx env r.2 := nr rfl
@[simp] theorem st_if {c : E} {a b : List St} : evS C (.ifS c a b) env st = ((evE C c env st).bind boolR).bind fun r => if r.1 then evSs C a env r.2 else evSs C b env r.2 := nr rfl
@[simp] theorem st_wh {c : E} {b : List St} : evS C (.wh c b) env st = WH C c b env st := nr rfl
@[simp] theorem st_for {tg : List Nat} {tup : Bool} {it : I} {b : List St} : evS C (.forS tg tup it b) env st = (evI C it env st).bind fun r => FOR C tg tup b r.1 env r.2 := nr rfl
noncomputable def FORP (C : Calls) (tg : List Nat) (tup : Bool) (b : List St) (l : Nat) (ds0 ds : List D) (env : Env) (st : Sto) : Option Out := forG (lstS l ds0) (fun d e => bindT tg tup d e) (fun e s => evSs C b e s) ds env st
@[simp] theorem st_forP {tg : List Nat} {tup : Bool} {i : Nat} {b : List St} : evS C (.forP tg tup i b) env st = (plV env i st).bind fun r => FORP C tg tup b r.1 r.2 r.2 env st := nr rfl
@[simp] theorem st_forD {tg : List Nat} {tup : Bool} {i : Nat} {b : List St} : evS C (.forD tg tup i b) env st = (kyV env i).bind fun r => FOR C tg tup b r env st := nr rfl
@[simp] theorem st_ret {e : E} : evS C (.ret e) env st = (evE C e env st).map fun r => .rt r.1 r.2 := nr rfl
@[simp] theorem st_retN : evS C .retN env st = some (.rt (.dat .non) st) := nr rfl
@[simp] theorem st_pass : evS C .pass env st = some (.nx env st) := nr rfl
@[simp] theorem st_nev : evS C .nev env st = none := nr rfl
@[simp] theorem st_frz {i : Nat} : evS C (.frz i) env st = (match env[i]? with
    | some (some v) => (toD v st).map fun q => .nx (env.set i (some (.dat q.1))) q.2
    | _ => none) := nr rfl
/-- what follows a statement -/
noncomputable def THEN (C : Calls) (ss : List St) : Out → Option Out
  | .nx e s => evSs C ss e s
  | .rt v s => some (.rt v s)
@[simp] theorem then_nx {ss : List St} : THEN C ss (.nx env st) = evSs C ss env st := nr rfl
@[simp] theorem then_rt {ss : List St} {v : Val} : THEN C ss (.rt v st) = some (.rt v st) := nr rfl
@[simp] theorem ss_nil' : evSs C [] env st = some (.nx env st) := nr rfl
@[simp] theorem ss_cons' {s : St} {ss : List St} : evSs C (s :: ss) env st = (evS C s env st).bind (THEN C ss) := by
  show (evS C s env st).bind _ = _
  congr 1
end
/-- a comprehension that changes nothing -/
theorem COMP_filter {C : Calls} {elt c : E} {tg own : List Nat} {tup : Bool} {env : Env} {st : Sto} (p : D → Bool) (f : D → D) : ∀ {ds : List D}, (∀ d ∈ ds, ∃ e1, bindT tg tup d (wipeE env own) = some e1 ∧ evE C c e1 st = some (.dat (.bl (p d)), st) ∧ (p d = true → evE C elt e1 st = some (.dat (f d), st))) →
    COMP C elt tg tup (some c) own ds env st = some ((ds.filter p).map f, st)
  | [], _ => rfl
  | d :: ds, h => by
    obtain ⟨e1, h1, h2, h3⟩ := h d List.mem_cons_self
    have ih := COMP_filter p f (ds := ds) fun d hd => h d (List.mem_cons_of_mem _ hd)
    unfold COMP at ih ⊢
    simp only [compV, h1, evC, h2, ob_some]
    cases hp : p d with
    | false =>
      rw [List.filter_cons_of_neg (by simp [hp])]
      exact ih
    | true =>
      rw [List.filter_cons_of_pos hp, List.map_cons]
      simp only [boolR, ob_some, if_true, h3 hp, toD]
      show Option.map _ (compV own (wipeE env own) (fun d e => bindT tg tup d e) (fun e s => evC C (some c) e s) (fun e s => evE C elt e s) ds st) = _
      rw [ih]; rfl
theorem COMP_map {C : Calls} {elt : E} {tg own : List Nat} {tup : Bool} {env : Env} {st : Sto} (f : D → D) : ∀ {ds : List D}, (∀ d ∈ ds, ∃ e1, bindT tg tup d (wipeE env own) = some e1 ∧ evE C elt e1 st = some (.dat (f d), st)) → COMP C elt tg tup none own ds env st = some (ds.map f, st)
  | [], _ => rfl
  | d :: ds, h => by
    obtain ⟨e1, h1, h3⟩ := h d List.mem_cons_self
    have ih := COMP_map f (ds := ds) fun d hd => h d (List.mem_cons_of_mem _ hd)
    unfold COMP at ih ⊢
    simp only [compV, h1, ob_some]
    show Option.bind (some (true, st)) _ = _
    simp only [ob_some, if_true, h3, toD]
    rw [ih]; rfl
/-! ### what operators make of plain values -/
section
variable {st : Sto} {i j : Int} {b c : Bool} {v w : W} {ds es : List D}
@[simp] theorem b_add : binV .add (.dat (.int i)) (.dat (.int j)) st = some (.dat (.int (i + j))) := nr rfl
@[simp] theorem b_sub : binV .sub (.dat (.int i)) (.dat (.int j)) st = some (.dat (.int (i - j))) := nr rfl
@[simp] theorem b_mul : binV .mul (.dat (.int i)) (.dat (.int j)) st = if okMul i j then some (.dat (.int (i * j))) else none := nr rfl
@[simp] theorem b_fdiv : binV .fdiv (.dat (.int i)) (.dat (.int j)) st = if okDiv j then some (.dat (.int (i.fdiv j))) else none := nr rfl
@[simp] theorem b_mod : binV .mod (.dat (.int i)) (.dat (.int j)) st = if j = 0 then none else some (.dat (.int (i.fmod j))) := nr rfl
@[simp] theorem b_pow : binV .pow (.dat (.int i)) (.dat (.int j)) st = if okPow i j then some (.dat (.int (i ^ j.toNat))) else none := nr rfl
@[simp] theorem b_shl : binV .shl (.dat (.int i)) (.dat (.int j)) st = if okPow i j then some (.dat (.int (i * 2 ^ j.toNat))) else none := nr rfl
@[simp] theorem b_str : binV .add (.dat (.str v)) (.dat (.str w)) st = if v.length + w.length ≤ LIM then some (.dat (.str (v ++ w))) else none := nr rfl
@[simp] theorem b_tup : binV .add (.dat (.tup ds)) (.dat (.tup es)) st = if ds.length + es.length ≤ LIM then some (.dat (.tup (ds ++ es))) else none := nr rfl
@[simp] theorem b_lst : binV .add (.dat (.lst ds)) (.dat (.lst es)) st = if ds.length + es.length ≤ LIM then some (.dat (.lst (ds ++ es))) else none := nr rfl
@[simp] theorem b_rep : binV .mul (.dat (.tup ds)) (.dat (.int j)) st = if ds.isEmpty = false ∧ ds.length ≤ 1000 ∧ 2 ≤ j ∧ j ≤ 1000 then some (.dat (.tup (List.replicate j.toNat ds).flatten)) else none := nr rfl
@[simp] theorem c_lt : cmpV .lt (.dat (.int i)) (.dat (.int j)) st = some (decide (i < j)) := nr rfl
@[simp] theorem c_le : cmpV .le (.dat (.int i)) (.dat (.int j)) st = some (decide (i ≤ j)) := nr rfl
@[simp] theorem c_gt : cmpV .gt (.dat (.int i)) (.dat (.int j)) st = some (decide (j < i)) := nr rfl
@[simp] theorem c_ge : cmpV .ge (.dat (.int i)) (.dat (.int j)) st = some (decide (j ≤ i)) := nr rfl
@[simp] theorem c_eqI : cmpV .eq (.dat (.int i)) (.dat (.int j)) st = some (decide (i = j)) := by
  simp [cmpV, snap, eqOk, nod, dep, eqD]
  cases h : decide (i = j) <;> simp_all
@[simp] theorem c_neI : cmpV .ne (.dat (.int i)) (.dat (.int j)) st = some (decide (i ≠ j)) := by
  simp [cmpV, snap, eqOk, nod, dep, eqD]
  cases h : decide (i = j) <;> simp_all
@[simp] theorem c_eqB : cmpV .eq (.dat (.bl b)) (.dat (.bl c)) st = some (b == c) := by
  simp [cmpV, snap, eqOk, nod, dep, eqD]
@[simp] theorem c_neB : cmpV .ne (.dat (.bl b)) (.dat (.bl c)) st = some (!(b == c)) := by
  simp [cmpV, snap, eqOk, nod, dep, eqD]
@[simp] theorem c_eqS : cmpV .eq (.dat (.str v)) (.dat (.str w)) st = some (v == w) := by
  simp [cmpV, snap, eqOk, nod, dep, eqD]
@[simp] theorem c_neS : cmpV .ne (.dat (.str v)) (.dat (.str w)) st = some (!(v == w)) := by
  simp [cmpV, snap, eqOk, nod, dep, eqD]
@[simp] theorem c_isB : cmpV .is (.dat (.bl b)) (.dat (.bl c)) st = some (b == c) := nr rfl
@[simp] theorem c_isnotB : cmpV .isnot (.dat (.bl b)) (.dat (.bl c)) st = some (!(b == c)) := nr rfl
@[simp] theorem c_isN : cmpV .is (.dat .non) (.dat .non) st = some true := nr rfl
@[simp] theorem c_isnotN : cmpV .isnot (.dat .non) (.dat .non) st = some false := nr rfl
@[simp] theorem c_isTN : cmpV .is (.dat (.tup ds)) (.dat .non) st = some false := nr rfl
@[simp] theorem c_isnotTN : cmpV .isnot (.dat (.tup ds)) (.dat .non) st = some true := nr rfl
@[simp] theorem c_isIN : cmpV .is (.dat (.int i)) (.dat .non) st = some false := nr rfl
@[simp] theorem c_isnotIN : cmpV .isnot (.dat (.int i)) (.dat .non) st = some true := nr rfl
@[simp] theorem iO_int : intOf (.dat (.int i)) = some i := nr rfl
@[simp] theorem bR {b : Bool} : boolR (.dat (.bl b), st) = some (b, st) := nr rfl
@[simp] theorem tD {d : D} : toD (.dat d) st = some (d, st) := nr rfl
@[simp] theorem tD_ref {l : Nat} : toD (.ref l) st = ((st[l]?).bind fzO).map fun d => (d, st.set l .dead) := nr rfl
@[simp] theorem tDs_nil : toDs [] st = some ([], st) := nr rfl
@[simp] theorem tDs_cons {v : Val} {vs : List Val} : toDs (v :: vs) st = (toD v st).bind fun r => (toDs vs r.2).map fun q => (r.1 :: q.1, q.2) := nr rfl
@[simp] theorem sn_dat {d : D} : snap st (.dat d) = some d := nr rfl
@[simp] theorem sn_bor {d : D} : snap st (.bor d) = some d := nr rfl
@[simp] theorem sn_ref {l : Nat} : snap st (.ref l) = (st[l]?).bind fzO := nr rfl
@[simp] theorem fz_lst : fzO (.lst ds) = some (.lst ds) := nr rfl
@[simp] theorem fz_dK {ks : List K1} : fzO (.dK ks ds) = some (.dK ks ds) := nr rfl
@[simp] theorem fz_dT {ks : List (List K1)} : fzO (.dT ks ds) = some (.dT ks ds) := nr rfl
@[simp] theorem aU_tup : asU (.dat (.tup ds)) = some ds := nr rfl
@[simp] theorem aU_lst : asU (.dat (.lst ds)) = some ds := nr rfl
@[simp] theorem bT_lst {env : Env} {is : List Nat} : bindT is true (.lst ds) env = bindT.go is ds env := nr rfl
@[simp] theorem aT_tup : asT (.dat (.tup ds)) = some ds := nr rfl
@[simp] theorem go_nil {env : Env} : bindT.go [] [] env = some env := nr rfl
@[simp] theorem go_cons {env : Env} {i : Nat} {is : List Nat} {d : D} : bindT.go (i :: is) (d :: ds) env = bindT.go is ds (env.set i (some (.dat d))) := nr rfl
@[simp] theorem bT_one {env : Env} {i : Nat} {d : D} : bindT [i] false d env = some (env.set i (some (.dat d))) := nr rfl
@[simp] theorem bT_tup {env : Env} {is : List Nat} : bindT is true (.tup ds) env = bindT.go is ds env := nr rfl
@[simp] theorem iT_lst : itV (.dat (.lst ds)) = some ds := nr rfl
@[simp] theorem iT_tup : itV (.dat (.tup ds)) = some ds := nr rfl
@[simp] theorem iT_scr {ns : List Int} : itV (.dat (.scr ns)) = some (ns.map .int) := nr rfl
@[simp] theorem iT_bor : itV (.bor (.lst ds)) = some ds := nr rfl
@[simp] theorem rg_1 : rngV [.dat (.int j)] = if rngOk 0 j then some (rngL 0 j) else none := nr rfl
@[simp] theorem rg_2 : rngV [.dat (.int i), .dat (.int j)] = if rngOk i j then some (rngL i j) else none := nr rfl
@[simp] theorem ty_int {t : Ty} : isTy (.int i) t = some (t == .int) := nr rfl
@[simp] theorem ty_bl {t : Ty} : isTy (.bl b) t = some (t == .int || t == .bool) := nr rfl
@[simp] theorem ty_str {t : Ty} : isTy (.str v) t = some (t == .str) := nr rfl
@[simp] theorem ty_tup {t : Ty} : isTy (.tup ds) t = some (t == .tuple) := nr rfl
@[simp] theorem ty_lst {t : Ty} : isTy (.lst ds) t = some (t == .list) := nr rfl
@[simp] theorem ty_dK {ks : List K1} {t : Ty} : isTy (.dK ks ds) t = some (t == .dict) := nr rfl
@[simp] theorem ty_non {t : Ty} : isTy .non t = some false := nr rfl
@[simp] theorem ix_tup : idxV (.dat (.tup ds)) (.dat (.int i)) st = at? ds i := nr rfl
@[simp] theorem ix_lst : idxV (.dat (.lst ds)) (.dat (.int i)) st = at? ds i := nr rfl
@[simp] theorem ix_scr {ns : List Int} : idxV (.dat (.scr ns)) (.dat (.int i)) st = (at? ns i).map .int := nr rfl
@[simp] theorem ix_bor : idxV (.bor (.lst ds)) (.dat (.int i)) st = at? ds i := nr rfl
@[simp] theorem ix_refL {l : Nat} (h : st[l]? = some (.lst ds)) : idxV (.ref l) (.dat (.int i)) st = at? ds i := by
  simp [idxV, snap, h, fzO]
theorem at_nat {α : Type} {xs : List α} {n : Nat} : at? xs (n : Int) = xs[n]? := by
  unfold at? ix
  by_cases h : n < xs.length
  · rw [if_pos (by omega), if_pos (by omega)]; rfl
  · rw [if_pos (by omega), if_neg (by omega), List.getElem?_eq_none (by omega)]; rfl
@[simp] theorem at_0 {α : Type} {a : α} {xs : List α} : at? (a :: xs) 0 = some a := by
  rw [show (0 : Int) = ((0 : Nat) : Int) from rfl, at_nat]; rfl
@[simp] theorem at_1 {α : Type} {a b : α} {xs : List α} : at? (a :: b :: xs) 1 = some b := by
  rw [show (1 : Int) = ((1 : Nat) : Int) from rfl, at_nat]; rfl
@[simp] theorem at_2 {α : Type} {a b c : α} {xs : List α} : at? (a :: b :: c :: xs) 2 = some c := by
  rw [show (2 : Int) = ((2 : Nat) : Int) from rfl, at_nat]; rfl
@[simp] theorem at_3 {α : Type} {a b c d : α} {xs : List α} : at? (a :: b :: c :: d :: xs) 3 = some d := by
  rw [show (3 : Int) = ((3 : Nat) : Int) from rfl, at_nat]; rfl
@[simp] theorem at_4 {α : Type} {a b c d e : α} {xs : List α} : at? (a :: b :: c :: d :: e :: xs) 4 = some e := by
  rw [show (4 : Int) = ((4 : Nat) : Int) from rfl, at_nat]; rfl
@[simp] theorem sl_tup {lo hi : Option Int} : slcV (.dat (.tup ds)) lo hi st = some (.tup (cutL ds lo hi)) := nr rfl
@[simp] theorem sl_lst {lo hi : Option Int} : slcV (.dat (.lst ds)) lo hi st = some (.lst (cutL ds lo hi)) := nr rfl
@[simp] theorem sl_scr {ns : List Int} {lo hi : Option Int} : slcV (.dat (.scr ns)) lo hi st = some (.lst (cutL (ns.map .int) lo hi)) := nr rfl
@[simp] theorem sl_bor {lo hi : Option Int} : slcV (.bor (.lst ds)) lo hi st = some (.lst (cutL ds lo hi)) := nr rfl
theorem sIx_nat {n d k : Nat} : sIx n d (some (k : Int)) = min k n := by
  show (if (k : Int) < 0 then ((k : Int) + (n : Int)).toNat else min (k : Int).toNat n) = _
  rw [if_neg (by omega), Int.toNat_natCast]
theorem sIx_none {n d : Nat} : sIx n d none = d := nr rfl
theorem sIx_neg {n d k : Nat} : sIx n d (some (-((k + 1 : Nat) : Int))) = n - (k + 1) := by
  show (if (-((k + 1 : Nat) : Int)) < 0 then (-((k + 1 : Nat) : Int) + (n : Int)).toNat else min (-((k + 1 : Nat) : Int)).toNat n) = _
  rw [if_pos (by omega)]
  omega
theorem cut_take {α : Type} {xs : List α} {n : Nat} : cutL xs none (some (n : Int)) = xs.take n := by
  unfold cutL
  rw [sIx_nat, sIx_none, List.drop_zero, Nat.sub_zero]
  by_cases h : n ≤ xs.length
  · rw [Nat.min_eq_left h]
  · rw [Nat.min_eq_right (by omega), List.take_of_length_le (Nat.le_refl _), List.take_of_length_le (by omega)]
theorem cut_drop {α : Type} {xs : List α} {n : Nat} : cutL xs (some (n : Int)) none = xs.drop n := by
  unfold cutL
  rw [sIx_nat, sIx_none]
  rw [List.take_of_length_le (by rw [List.length_drop]; omega)]
  by_cases h : n ≤ xs.length
  · rw [Nat.min_eq_left h]
  · rw [List.drop_eq_nil_of_le (by omega), List.drop_eq_nil_of_le (by omega)]
@[simp] theorem bi_lenT : biV .len [.dat (.tup ds)] st = some (.int ds.length) := nr rfl
@[simp] theorem bi_lenL : biV .len [.dat (.lst ds)] st = some (.int ds.length) := nr rfl
@[simp] theorem bi_lenB : biV .len [.bor (.lst ds)] st = some (.int ds.length) := nr rfl
@[simp] theorem bi_lenS {ns : List Int} : biV .len [.dat (.scr ns)] st = some (.int ns.length) := nr rfl
@[simp] theorem bi_lenW : biV .len [.dat (.str v)] st = if v.length ≤ LIM then some (.int v.length) else none := by
  simp only [biV, lenV]; split <;> rfl
@[simp] theorem bi_lenK {ks : List K1} : biV .len [.dat (.dK ks ds)] st = some (.int ks.length) := nr rfl
@[simp] theorem bi_lenR {l : Nat} (h : st[l]? = some (.lst ds)) : biV .len [.ref l] st = some (.int ds.length) := by
  simp [biV, lenV, snap, h, fzO]
theorem abs_eq {a : Int} : (if a < 0 then -a else a) = (a.natAbs : Int) := by
  split <;> omega
@[simp] theorem bi_abs : biV .abs [.dat (.int i)] st = some (.int i.natAbs) := by
  show some (D.int (if i < 0 then -i else i)) = _
  rw [abs_eq]
@[simp] theorem bi_intB : biV .int [.dat (.bl b)] st = some (.int (if b then 1 else 0)) := nr rfl
@[simp] theorem bi_intI : biV .int [.dat (.int i)] st = some (.int i) := nr rfl
@[simp] theorem bi_str : biV .str [.dat (.int i)] st = if i.natAbs.log2 < 1920 then some (.str (intW i)) else none := nr rfl
@[simp] theorem bi_tupL : biV .tuple [.dat (.lst ds)] st = some (.tup ds) := nr rfl
@[simp] theorem bi_tupT : biV .tuple [.dat (.tup ds)] st = some (.tup ds) := nr rfl
@[simp] theorem bi_tupR {l : Nat} (h : st[l]? = some (.lst ds)) : biV .tuple [.ref l] st = some (.tup ds) := by
  simp [biV, asT, asL, snap, h, fzO]
@[simp] theorem bi_max2 : biV .max2 [.dat (.int i), .dat (.int j)] st = some (.int (if j > i then j else i)) := nr rfl
@[simp] theorem bi_min2 : biV .min2 [.dat (.int i), .dat (.int j)] st = some (.int (if j < i then j else i)) := nr rfl
@[simp] theorem bi_maxD {x : Val} : biV .maxD [x, .dat (.int i)] st = (asL st x).bind fun ds => (intsD ds).map fun ns => .int ((maxOf ns).getD i) := nr rfl
@[simp] theorem m_update {l : Nat} {js : List K1} {es : List D} : mtV .update (.ref l) [.dat (.dK js es)] st = (match st[l]? with
    | some (.dK ks ds) => if ks.length + js.length ≤ LIM then some (.dat .non, st.set l (.dK (updK ks ds js es).1 (updK ks ds js es).2)) else none
    | _ => none) := nr rfl
@[simp] theorem m_clear {l : Nat} : mtV .clear (.ref l) [] st = (match st[l]? with
    | some (.lst _) => some (.dat .non, st.set l (.lst []))
    | some (.dK _ _) => some (.dat .non, st.set l (.dK [] []))
    | _ => none) := nr rfl
@[simp] theorem aLT_lst : asLT st (.dat (.lst ds)) = some ds := nr rfl
@[simp] theorem aLT_tup : asLT st (.dat (.tup ds)) = some ds := nr rfl
@[simp] theorem aLT_scr {ns : List Int} : asLT st (.dat (.scr ns)) = some (ns.map .int) := nr rfl
@[simp] theorem aLT_bor : asLT st (.bor (.lst ds)) = some ds := nr rfl
@[simp] theorem aL_lst : asL st (.dat (.lst ds)) = some ds := nr rfl
@[simp] theorem aL_bor : asL st (.bor (.lst ds)) = some ds := nr rfl
@[simp] theorem aL_scr {ns : List Int} : asL st (.dat (.scr ns)) = some (ns.map .int) := nr rfl
@[simp] theorem aX_lst : asX st (.dat (.lst ds)) = some ds := nr rfl
@[simp] theorem aX_bor : asX st (.bor (.lst ds)) = some ds := nr rfl
@[simp] theorem aX_ref {l : Nat} (h : st[l]? = some (.lst ds)) : asX st (.ref l) = some ds := by
  simp [asX, snap, h, fzO]
@[simp] theorem aL_ref {l : Nat} (h : st[l]? = some (.lst ds)) : asL st (.ref l) = some ds := by
  simp [asL, snap, h, fzO]
@[simp] theorem m_append {l : Nat} {d : D} : mtV .append (.ref l) [.dat d] st = (match st[l]? with
    | some (.lst ds) => if ds.length < LIM then some (.dat .non, st.set l (.lst (ds ++ [d]))) else none
    | _ => none) := nr rfl
@[simp] theorem m_pop {l : Nat} : mtV .pop (.ref l) [] st = (match st[l]? with
    | some (.lst ds) => (ds[ds.length - 1]?).map fun d => (.dat d, st.set l (.lst ds.dropLast))
    | _ => none) := nr rfl
@[simp] theorem m_popAt {l : Nat} : mtV .popAt (.ref l) [.dat (.int i)] st = (match st[l]? with
    | some (.lst ds) => if -(2 ^ 63) ≤ i ∧ i < 2 ^ 63 then (ix ds.length i).bind fun k => (ds[k]?).map fun d => (.dat d, st.set l (.lst (ds.eraseIdx k))) else none
    | _ => none) := nr rfl
@[simp] theorem kd_ref {l : Nat} : kindV st (.ref l) = (match st[l]? with
    | some (.lst _) => 1
    | some (.dK _ _) => 2
    | some (.dT _ _) => 2
    | _ => 0) := by
  unfold kindV
  simp only [sn_ref]
  cases h : st[l]? with
  | none => rfl
  | some o => cases o <;> rfl
@[simp] theorem kd_str : kindV st (.dat (.str v)) = 3 := nr rfl
@[simp] theorem kd_dK {ks : List K1} : kindV st (.dat (.dK ks ds)) = 2 := nr rfl
@[simp] theorem kd_bK {ks : List K1} : kindV st (.bor (.dK ks ds)) = 2 := nr rfl
@[simp] theorem get_ap0 {l r : Sto} {a : Obj} : (l ++ a :: r)[l.length]? = some a := by
  rw [List.getElem?_append_right (Nat.le_refl _), Nat.sub_self]; rfl
@[simp] theorem get_ap1 {l r : Sto} {a b : Obj} : (l ++ a :: b :: r)[l.length + 1]? = some b := by
  rw [List.getElem?_append_right (by omega), show l.length + 1 - l.length = 1 by omega]; rfl
@[simp] theorem get_ap2 {l r : Sto} {a b c : Obj} : (l ++ a :: b :: c :: r)[l.length + 2]? = some c := by
  rw [List.getElem?_append_right (by omega), show l.length + 2 - l.length = 2 by omega]; rfl
@[simp] theorem set_ap0 {l r : Sto} {a x : Obj} : (l ++ a :: r).set l.length x = l ++ x :: r := by
  rw [List.set_append_right _ _ (Nat.le_refl _), Nat.sub_self]; rfl
@[simp] theorem set_ap1 {l r : Sto} {a b x : Obj} : (l ++ a :: b :: r).set (l.length + 1) x = l ++ a :: x :: r := by
  rw [List.set_append_right _ _ (by omega), show l.length + 1 - l.length = 1 by omega]; rfl
@[simp] theorem set_ap2 {l r : Sto} {a b c x : Obj} : (l ++ a :: b :: c :: r).set (l.length + 2) x = l ++ a :: b :: x :: r := by
  rw [List.set_append_right _ _ (by omega), show l.length + 2 - l.length = 2 by omega]; rfl
@[simp] theorem aDK_ref {l : Nat} : asDK st (.ref l) = (match (st[l]?).bind fzO with
    | some (.dK ks ds) => some (ks, ds)
    | _ => none) := rfl
@[simp] theorem aDK_dat {ks : List K1} : asDK st (.dat (.dK ks ds)) = some (ks, ds) := rfl
@[simp] theorem aDK_bor {ks : List K1} : asDK st (.bor (.dK ks ds)) = some (ks, ds) := rfl
@[simp] theorem sV_dK {l : Nat} {k d : D} : storeV (.ref l) (.dat k) d st = (match st[l]? with
    | some (.lst ds) => (match k with | .int i => (ix ds.length i).map fun j => st.set l (.lst (ds.set j d)) | _ => none)
    | some (.dK ks ds) => (toK k).bind fun k => if ks.length < LIM then some (st.set l (.dK (dputK ks ds k d).1 (dputK ks ds k d).2)) else none
    | some (.dT ks ds) => (toTK k).bind fun k => if ks.length < LIM then some (st.set l (.dT (dputK ks ds k d).1 (dputK ks ds k d).2)) else none
    | _ => none) := rfl
@[simp] theorem toK_int : toK (.int i) = some (.inl i) := rfl
@[simp] theorem toK_str : toK (.str v) = some (.inr v) := rfl
theorem c_ne_of {x y : Val} {a b : D} (h1 : snap st x = some a) (h2 : snap st y = some b) (h : eqOk a b = true) : cmpV .ne x y st = some (!eqD a b) := by
  simp [cmpV, h1, h2, h]
theorem c_eq_of {x y : Val} {a b : D} (h1 : snap st x = some a) (h2 : snap st y = some b) (h : eqOk a b = true) : cmpV .eq x y st = some (eqD a b) := by
  simp [cmpV, h1, h2, h]
@[simp] theorem fl_lst : flat (.lst ds) = true := nr rfl
@[simp] theorem fl_dK {ks : List K1} : flat (.dK ks ds) = true := nr rfl
@[simp] theorem fl_dT {ks : List (List K1)} : flat (.dT ks ds) = true := nr rfl
@[simp] theorem fl_dead : flat .dead = true := nr rfl
@[simp] theorem pr_nil {n : Nat} : prep st n [] [] = some ([], [], []) := nr rfl
@[simp] theorem pr_dat {n : Nat} {b : Bool} {bs : List Bool} {d : D} {vs : List Val} : prep st n (b :: bs) (.dat d :: vs) = (prep st n bs vs).map fun r => (.dat d :: r.1, r.2.1, r.2.2) := by cases b <;> rfl
@[simp] theorem pr_bor {n : Nat} {b : Bool} {bs : List Bool} {d : D} {vs : List Val} : prep st n (b :: bs) (.bor d :: vs) = (prep st n bs vs).map fun r => (.bor d :: r.1, r.2.1, r.2.2) := by cases b <;> rfl
@[simp] theorem pr_own {n l : Nat} {bs : List Bool} {vs : List Val} : prep st n (true :: bs) (.ref l :: vs) = (prep st (n + 1) bs vs).map fun r => (.ref n :: r.1, l :: r.2.1, r.2.2) := nr rfl
@[simp] theorem pr_lend {n l : Nat} {bs : List Bool} {vs : List Val} : prep st n (false :: bs) (.ref l :: vs) = ((st[l]?).bind fzO).bind fun d => (prep st n bs vs).map fun r => (.bor d :: r.1, r.2.1, l :: r.2.2) := nr rfl
@[simp] theorem tk_nil : takeSt st [] = some [] := nr rfl
@[simp] theorem tk_cons {l : Nat} {ls : List Nat} : takeSt st (l :: ls) = (st[l]?).bind fun o => if flat o then (takeSt st ls).map (o :: ·) else none := nr rfl
@[simp] theorem bk_nil {os : Sto} : backSt st [] os = st := by cases os <;> rfl
@[simp] theorem bk_cons {l : Nat} {ls : List Nat} {o : Obj} {os : Sto} : backSt st (l :: ls) (o :: os) = backSt (st.set l o) ls os := nr rfl
@[simp] theorem en_nx {k : Nat} {env : Env} : endV k (.nx env st) = some (.dat .non, st.take k) := nr rfl
@[simp] theorem en_dat {k : Nat} {d : D} : endV k (.rt (.dat d) st) = some (.dat d, st.take k) := nr rfl
/-- a call, its arguments laid out -/
def CALLP (C : Calls) (f : Nat) (st : Sto) (r : List Val × List Nat × List Nat) : Option (Ret × Sto) := if r.2.1.Nodup ∧ (∀ x ∈ r.2.2, x ∉ r.2.1) then
    (takeSt st r.2.1).bind fun os => (C f r.1 os).bind fun q => if q.2.all flat && decide (q.2.length = os.length) then some (q.1, backSt st r.2.1 q.2) else none
  else none
@[simp] theorem callV_eq {C : Calls} {f : Nat} {m : List Bool} {vs : List Val} : callV C f m vs st = (prep st 0 m vs).bind (CALLP C f st) := nr rfl
def RETP (st : Sto) (q : Ret × Sto) : Option (Ret × Sto) := if q.2.all flat && decide (q.2.length = 0) then some (q.1, st) else none
@[simp] theorem retP_nil {r : Ret} : RETP st (r, []) = some (r, st) := nr rfl
/-- .. that hands no place over -/
@[simp] theorem callP_nil {C : Calls} {f : Nat} {as : List Val} {bor : List Nat} : CALLP C f st (as, [], bor) = (C f as []).bind (RETP st) := by
  simp only [CALLP, List.nodup_nil, List.not_mem_nil, not_false_eq_true, implies_true, and_self, if_true, tk_nil, Option.bind_some, List.length_nil, bk_nil]
  rfl
/-- .. that hands one place over -/
def RETP1 (st : Sto) (l : Nat) (q : Ret × Sto) : Option (Ret × Sto) := match q.2 with
  | [o] => if flat o then some (q.1, st.set l o) else none
  | _ => none
@[simp] theorem retP1_one {l : Nat} {o : Obj} {r : Ret} : RETP1 st l (r, [o]) = if flat o then some (r, st.set l o) else none := nr rfl
theorem callP_one {C : Calls} {f : Nat} {as : List Val} {bor : List Nat} {l : Nat} {o : Obj} (h : st[l]? = some o) (ho : flat o = true) (hb : l ∉ bor) : CALLP C f st (as, [l], bor) = (C f as [o]).bind (RETP1 st l) := by
  have hb' : ∀ x ∈ bor, x ∉ [l] := fun x hx e => hb (by rw [List.mem_singleton] at e; rw [← e]; exact hx)
  simp only [CALLP, List.nodup_cons, List.not_mem_nil, not_false_eq_true, List.nodup_nil, and_self, true_and, if_pos hb', tk_cons, tk_nil, h, ho, Option.bind_some, if_true, Option.map_some]
  cases hC : C f as [o] with
  | none => rfl
  | some q =>
    obtain ⟨r, os⟩ := q
    match os with
    | [] => simp [RETP1]
    | [o'] =>
      simp only [Option.bind_some, retP1_one, List.all_cons, List.all_nil, Bool.and_true, List.length_cons, List.length_nil, decide_true, bk_cons, bk_nil]
    | _ :: _ :: _ => simp [RETP1]
@[simp] theorem callP_1 {C : Calls} {f : Nat} {as : List Val} {bor : List Nat} {l : Nat} : CALLP C f st (as, [l], bor) = if l ∈ bor then none else (st[l]?).bind fun o => if flat o then (C f as [o]).bind (RETP1 st l) else none := by
  by_cases hb : l ∈ bor
  · rw [if_pos hb, CALLP, if_neg]
    rintro ⟨_, h⟩
    exact h l hb (by simp)
  · rw [if_neg hb]
    cases h : st[l]? with
    | none => simp [CALLP, h]
    | some o =>
      by_cases ho : flat o = true
      · rw [callP_one h ho hb]; simp [ho]
      · simp [CALLP, h, ho]
def RETP2 (st : Sto) (l k : Nat) (q : Ret × Sto) : Option (Ret × Sto) := match q.2 with
  | [o, o'] => if flat o && flat o' then some (q.1, (st.set l o).set k o') else none
  | _ => none
@[simp] theorem retP2_two {l k : Nat} {o o' : Obj} {r : Ret} : RETP2 st l k (r, [o, o']) = if flat o && flat o' then some (r, (st.set l o).set k o') else none := nr rfl
@[simp] theorem callP_2 {C : Calls} {f : Nat} {as : List Val} {bor : List Nat} {l k : Nat} : CALLP C f st (as, [l, k], bor) = if l = k ∨ l ∈ bor ∨ k ∈ bor then none else (st[l]?).bind fun o => (st[k]?).bind fun o' => if flat o && flat o' then (C f as [o, o']).bind (RETP2 st l k) else none := by
  by_cases hb : l = k ∨ l ∈ bor ∨ k ∈ bor
  · rw [if_pos hb, CALLP, if_neg]
    rintro ⟨h1, h2⟩
    rcases hb with hb | hb | hb
    · subst hb; simp at h1
    · exact h2 l hb (by simp)
    · exact h2 k hb (by simp)
  · rw [if_neg hb]
    have hb1 : ¬ l = k := fun e => hb (.inl e)
    have hb2 : ¬ l ∈ bor := fun e => hb (.inr (.inl e))
    have hb3 : ¬ k ∈ bor := fun e => hb (.inr (.inr e))
    have hc : [l, k].Nodup ∧ ∀ x ∈ bor, x ∉ [l, k] := by
      refine ⟨by simp [hb1], fun x hx e => ?_⟩
      simp at e
      rcases e with e | e <;> subst e
      · exact hb2 hx
      · exact hb3 hx
    simp only [CALLP, if_pos hc, tk_cons, tk_nil]
    cases h : st[l]? with
    | none => rfl
    | some o =>
      cases h' : st[k]? with
      | none => simp only [Option.bind_some, Option.bind_none]; split <;> rfl
      | some o' =>
        simp only [Option.bind_some, Option.map_some]
        cases ho : flat o <;> cases ho' : flat o' <;> simp
        cases hC : C f as [o, o'] with
        | none => rfl
        | some q =>
          obtain ⟨r, os⟩ := q
          match os with
          | [] => simp [RETP2]
          | [_] => simp [RETP2]
          | [a, b] => simp
          | _ :: _ :: _ :: _ => simp [RETP2]
/-- what a call's body comes to -/
def CHK (q : Ret × Sto) : Option (Ret × Sto) := if q.2.all flat then some q else none
@[simp] theorem chk_nil {r : Ret} : CHK (r, []) = some (r, []) := nr rfl
@[simp] theorem chk_one {r : Ret} {o : Obj} : CHK (r, [o]) = if flat o then some (r, [o]) else none := by simp [CHK]
theorem call_go {P : Prog} {d i : Nat} {args : List Val} (fn : Fn) (hP : P i = some fn) (hl : args.length = fn.ps) (hk : fn.kind = .fn := by rfl) : call P (d + 1) i args st = ((evSs (call P d) fn.body (startE fn args) st).bind (endV st.length)).bind CHK := by
  simp only [call, hP, Option.bind_some, hk, runF, if_pos hl]
  rfl
/-- a method -/
theorem call_goM {P : Prog} {d i : Nat} {args : List Val} (fn : Fn) (hP : P i = some fn) (hl : args.length = fn.ps) (hk : fn.kind = .me := by rfl) : call P (d + 1) i args st = (evSs (call P d) fn.body (startE fn args) st).map endM := by
  simp only [call, hP, Option.bind_some, hk, runM, if_pos hl]
def MKP (l : Nat) (q : Ret × Sto) : Option (Ret × Sto) := match q.1 with
    | .val (.dat .non) => some (.val (.ref l), q.2)
    | _ => none
@[simp] theorem mkP_non {l : Nat} : MKP l (.val (.dat .non), st) = some (.val (.ref l), st) := nr rfl
/-- a class's instance -/
theorem call_goK {P : Prog} {d i c j : Nat} {args : List Val} (fn : Fn) (hP : P i = some fn) (hl : args.length = fn.ps) (hk : fn.kind = .mk c j := by rfl) : call P (d + 1) i args st = (call P d j (.ref st.length :: args) (st ++ [.ins c []])).bind (MKP st.length) := by
  simp only [call, hP, Option.bind_some, hk, runK, if_pos hl]
  try rfl
@[simp] theorem endM_nx {env : Env} : endM (.nx env st) = (.val (.dat .non), st) := nr rfl
@[simp] theorem endM_rt {v : Val} : endM (.rt v st) = (.val v, st) := nr rfl
end
end NK
set_option linter.all false
namespace NK
open PySem L2
def F2b0 : List St := [.par 0 1 (.var 1) (.bin .mod (.var 0) (.var 1))]
/-- common -/
def F2 : Fn := ⟨2, 2, [.set 0 (.bi .abs [(.var 0)]),
  .set 1 (.bi .abs [(.var 1)]),
  .wh (.cmp .gt (.var 1) (.int 0)) F2b0,
  .ret (.var 0)], .fn⟩
def F3i0 : St := .ifS (.cmp .lt (.var 1) (.int 0))
  [.set 2 (.neg (.var 2))]
  []
/-- made -/
def F3 : Fn := ⟨2, 3, [.set 2 (.call 2 [false, false] [(.var 0), (.var 1)]),
  F3i0,
  .ret (.tup [(.bin .fdiv (.var 0) (.var 2)), (.bin .fdiv (.var 1) (.var 2))])], .fn⟩
def F4b0 : List St := [.par 0 1 (.var 1) (.bin .mod (.var 0) (.var 1))]
/-- _law_common -/
def F4 : Fn := ⟨2, 2, [.wh (.cmp .ne (.var 1) (.int 0)) F4b0,
  .ret (.bi .abs [(.var 0)])], .fn⟩
/-- _law_is_fraction -/
def F5 : Fn := ⟨1, 2, [.ifS (.or (.not (.isi (.var 0) [.tuple])) (.cmp .ne (.bi .len [(.var 0)]) (.int 2)))
    [.ret (.bl false)]
    [],
  .ifS (.cmp .lt (.bi .len [(.fz (.comp (.var 1) [1] false (.e (.var 0)) (some (.and (.isi (.var 1) [.int]) (.not (.isi (.var 1) [.bool])))) [1]))]) (.int 2))
    [.ret (.bl false)]
    [],
  .ret (.and (.cmp .gt (.idx (.var 0) (.int 1)) (.int 0)) (.cmp .eq (.call 4 [false, false] [(.idx (.var 0) (.int 0)), (.idx (.var 0) (.int 1))]) (.int 1)))], .fn⟩
/-- less -/
def F7 : Fn := ⟨2, 2, [.ret (.cmp .lt (.bin .mul (.idx (.var 0) (.int 0)) (.idx (.var 1) (.int 1))) (.bin .mul (.idx (.var 1) (.int 0)) (.idx (.var 0) (.int 1))))], .fn⟩
def F10b0 : List St := [.set 1 (.bin .mod (.bin .add (.bin .add (.bin .add (.bin .mul (.var 1) (.var 1)) (.bin .mul (.bin .mul (.int 48271) (.var 3)) (.var 3))) (.var 3)) (.int 3)) (.int 2147483629)),
  .set 2 (.bin .add (.bin .mul (.var 2) (.int 2147483587)) (.bin .mod (.bin .mul (.var 1) (.var 1)) (.int 2147483587)))]
/-- _law_purse -/
def F10 : Fn := ⟨1, 4, [.set 1 (.bin .mod (.var 0) (.int 2147483647)),
  .set 2 (.int 1),
  .forS [3] false (.rng [(.int 16)]) F10b0,
  .ifS (.cmp .eq (.bin .mod (.var 0) (.int 2)) (.int 0))
    [.ret (.new (.lst [(.bin .fdiv (.bi .abs [(.var 0)]) (.int 2)), (.var 2)]))]
    [],
  .ret (.new (.lst [(.int 0), (.var 2)]))], .fn⟩
/-- _law_take -/
def F11 : Fn := ⟨2, 4, [.set 2 (.bi .int [(.cmp .eq (.idx (.var 0) (.int 0)) (.int 0))]),
  .set 3 (.bin .mod (.idx (.var 0) (.var 2)) (.var 1)),
  .sub (.var 0) (.var 2) (.bin .fdiv (.idx (.var 0) (.var 2)) (.var 1)),
  .ret (.var 3)], .fn⟩
def F12i0 : St := .ifS (.cmp .eq (.call 11 [true, false] [(.var 1), (.int 4)]) (.int 1))
  [.set 2 (.bin .sub (.call 11 [true, false] [(.var 1), (.bin .add (.bin .mul (.int 2) (.bin .pow (.int 10) (.int 40))) (.int 1))]) (.bin .pow (.int 10) (.int 40)))]
  []
def F12i1 : St := .ifS (.cmp .gt (.var 3) (.int 3))
  [.set 3 (.bin .add (.int 1) (.call 11 [true, false] [(.var 1), (.var 3)]))]
  []
/-- _law_fraction -/
def F12 : Fn := ⟨1, 5, [.set 1 (.callA 10 [false] [(.var 0)]),
  .set 2 (.bin .sub (.call 11 [true, false] [(.var 1), (.int 41)]) (.int 20)),
  F12i0,
  .set 3 (.idx (.fz (.lst [(.int 1), (.int 1), (.int 2), (.int 3), (.int 1000), (.bin .pow (.int 10) (.int 12))])) (.call 11 [true, false] [(.var 1), (.int 6)])),
  F12i1,
  .set 4 (.call 4 [false, false] [(.var 2), (.var 3)]),
  .ret (.tup [(.bin .fdiv (.var 2) (.var 4)), (.bin .fdiv (.var 3) (.var 4))])], .fn⟩
/-- plus -/
def F13 : Fn := ⟨2, 2, [.ret (.call 3 [false, false] [(.bin .add (.bin .mul (.idx (.var 0) (.int 0)) (.idx (.var 1) (.int 1))) (.bin .mul (.idx (.var 1) (.int 0)) (.idx (.var 0) (.int 1)))), (.bin .mul (.idx (.var 0) (.int 1)) (.idx (.var 1) (.int 1)))])], .fn⟩
/-- minus -/
def F14 : Fn := ⟨2, 2, [.ret (.call 3 [false, false] [(.bin .sub (.bin .mul (.idx (.var 0) (.int 0)) (.idx (.var 1) (.int 1))) (.bin .mul (.idx (.var 1) (.int 0)) (.idx (.var 0) (.int 1)))), (.bin .mul (.idx (.var 0) (.int 1)) (.idx (.var 1) (.int 1)))])], .fn⟩
/-- times -/
def F16 : Fn := ⟨2, 2, [.ret (.call 3 [false, false] [(.bin .mul (.idx (.var 0) (.int 0)) (.idx (.var 1) (.int 0))), (.bin .mul (.idx (.var 0) (.int 1)) (.idx (.var 1) (.int 1)))])], .fn⟩
/-- _law_names -/
def F19 : Fn := ⟨1, 3, [.set 1 (.str [97, 98, 99, 100, 101, 102, 103, 104, 105, 106, 107, 108, 109, 110, 111, 112, 113, 114, 115, 116, 117, 118, 119, 120, 121, 122]),
  .ret (.bi .tuple [(.bi .sorted [(.fz (.comp (.idx (.var 1) (.bin .mod (.bin .add (.bin .mod (.var 0) (.int 26)) (.bin .mul (.int 7) (.var 2))) (.int 26))) [2] false (.rng [(.bin .add (.int 1) (.bin .mod (.bin .fdiv (.var 0) (.int 26)) (.int 3)))]) none [2]))])])], .fn⟩
/-- _law_cell -/
def F20 : Fn := ⟨2, 2, [.ifS (.cmp .lt (.var 1) (.bi .len [(.var 0)]))
    [.ret (.idx (.var 0) (.var 1))]
    [],
  .ret (.int 0)], .fn⟩
/-- _law_number -/
def F21 : Fn := ⟨1, 1, [.ifS (.cmp .lt (.call 11 [true, false] [(.var 0), (.int 7)]) (.int 6))
    [.ret (.idx (.fz (.lst [(.int 0), (.int 1), (.neg (.int 1)), (.int 2), (.neg (.int 3)), (.int 5), (.int 1)])) (.call 11 [true, false] [(.var 0), (.int 7)]))]
    [],
  .ret (.bin .sub (.call 11 [true, false] [(.var 0), (.bin .add (.bin .mul (.int 2) (.bin .pow (.int 10) (.int 19))) (.int 1))]) (.bin .pow (.int 10) (.int 19)))], .fn⟩
def F22i0 : St := .ifS (.cmp .ne (.var 4) (.int 0))
  [.expr (.mt .append (.var 2) [(.tup [(.var 3), (.var 4)])])]
  []
def F22b0 : List St := [.set 4 (.call 21 [true] [(.var 0)]),
  F22i0]
/-- _law_terms -/
def F22 : Fn := ⟨2, 5, [.set 2 (.new (.lst [])),
  .forS [3] false (.e (.var 1)) F22b0,
  .ret (.bi .tuple [(.var 2)])], .fn⟩
def F23i0 : St := .ifS (.cmp .eq (.var 2) (.int 0))
  [.set 2 (.bin .add (.int 1) (.call 11 [true, false] [(.var 0), (.bin .pow (.int 10) (.int 19))]))]
  []
/-- _law_sum -/
def F23 : Fn := ⟨2, 4, [.set 2 (.idx (.fz (.lst [(.int 1), (.int 1), (.int 2), (.int 1), (.int 3), (.int 0)])) (.call 11 [true, false] [(.var 0), (.int 6)])),
  F23i0,
  .set 3 (.call 22 [true, false] [(.var 0), (.var 1)]),
  .ret (.tup [(.var 3), (.call 21 [true] [(.var 0)]), (.var 2)])], .fn⟩
def F24b0 : List St := [.sub (.var 2) (.idx (.var 1) (.var 3)) (.call 12 [false] [(.idx (.var 0) (.var 3))])]
/-- _law_point -/
def F24 : Fn := ⟨2, 4, [.set 2 (.new (.dic [])),
  .forS [3] false (.rng [(.bi .len [(.var 1)])]) F24b0,
  .ret (.var 2)], .fn⟩
def F25b0 : List St := [.ifS (.cmp .notin (.var 2) (.var 1))
    [.nev]
    []]
/-- must_have -/
def F25 : Fn := ⟨2, 4, [.forS [2, 3] true (.e (.var 0)) F25b0], .fn⟩
def F26b0 : List St := [.setT [9, 10] (.idx (.var 1) (.var 7)),
  .set 2 (.bin .add (.bin .mul (.var 2) (.var 10)) (.bin .mul (.bin .mul (.var 8) (.var 9)) (.var 3))),
  .set 3 (.bin .mul (.var 3) (.var 10))]
/-- worth -/
def F26 : Fn := ⟨2, 11, [.setT [4, 5, 6] (.var 0),
  .expr (.call 25 [false, false] [(.var 4), (.var 1)]),
  .set 2 (.var 5),
  .set 3 (.int 1),
  .forS [7, 8] true (.e (.var 4)) F26b0,
  .ret (.call 3 [false, false] [(.var 2), (.bin .mul (.var 3) (.var 6))])], .fn⟩
/-- _law_row -/
def F29 : Fn := ⟨2, 4, [.set 2 (.idx (.fz (.lst [(.str [108, 101, 97, 115, 116]), (.str [109, 111, 114, 101])])) (.call 11 [true, false] [(.var 0), (.int 2)])),
  .set 3 (.call 22 [true, false] [(.var 0), (.var 1)]),
  .ret (.tup [(.var 2), (.var 3), (.call 21 [true] [(.var 0)])])], .fn⟩
def F30b0 : List St := [.setT [6, 7] (.idx (.var 1) (.var 4)),
  .set 2 (.bin .add (.bin .mul (.var 2) (.var 7)) (.bin .mul (.bin .mul (.var 5) (.var 6)) (.var 3))),
  .set 3 (.bin .mul (.var 3) (.var 7))]
/-- _law_total -/
def F30 : Fn := ⟨2, 8, [.set 2 (.int 0),
  .set 3 (.int 1),
  .forS [4, 5] true (.e (.var 0)) F30b0,
  .ret (.fz (.lst [(.var 2), (.var 3)]))], .fn⟩
/-- is_so -/
def F31 : Fn := ⟨2, 4, [.set 2 (.call 26 [false, false] [(.tup [(.idx (.var 0) (.int 1)), (.int 0), (.int 1)]), (.var 1)]),
  .set 3 (.tup [(.idx (.var 0) (.int 2)), (.int 1)]),
  .ifS (.cmp .eq (.idx (.var 0) (.int 0)) (.str [109, 111, 114, 101]))
    [.ret (.call 7 [false, false] [(.var 3), (.var 2)])]
    [],
  .ret (.not (.call 7 [false, false] [(.var 2), (.var 3)]))], .fn⟩
/-- contrary -/
def F32 : Fn := ⟨1, 4, [.set 1 (.ite (.cmp .eq (.idx (.var 0) (.int 0)) (.str [108, 101, 97, 115, 116])) (.str [109, 111, 114, 101]) (.str [108, 101, 97, 115, 116])),
  .ret (.tup [(.var 1), (.bi .tuple [(.fz (.comp (.tup [(.var 2), (.neg (.var 3))]) [2, 3] true (.e (.idx (.var 0) (.int 1))) none [2, 3]))]), (.neg (.idx (.var 0) (.int 2)))])], .fn⟩
def F35b0 : List St := [.expr (.mt .append (.var 2) [(.mt .popAt (.var 1) [(.bin .mod (.bin .fdiv (.var 0) (.int 3)) (.bi .len [(.var 1)]))])]),
  .set 0 (.bin .add (.bin .fdiv (.var 0) (.int 5)) (.int 7))]
/-- _law_names -/
def F35 : Fn := ⟨1, 4, [.set 1 (.new (.list (.str [97, 98, 99, 100, 101, 102, 103, 104, 105, 106, 107, 108, 109, 110, 111, 112, 113, 114, 115, 116, 117, 118, 119, 120, 121, 122]))),
  .set 2 (.new (.lst [])),
  .forS [3] false (.rng [(.bin .add (.int 1) (.bin .mod (.var 0) (.int 3)))]) F35b0,
  .ret (.bi .tuple [(.bi .sorted [(.var 2)])])], .fn⟩
/-- _law_number -/
def F36 : Fn := ⟨1, 1, [.ifS (.cmp .eq (.bin .mod (.var 0) (.int 16)) (.int 15))
    [.ret (.bin .sub (.bin .mod (.bin .fdiv (.var 0) (.int 16)) (.bin .add (.bin .mul (.int 2) (.bin .pow (.int 10) (.int 18))) (.int 1))) (.bin .pow (.int 10) (.int 18)))]
    [],
  .ret (.bin .sub (.bin .mod (.bin .fdiv (.var 0) (.int 16)) (.int 7)) (.int 3))], .fn⟩
/-- _law_take -/
def F37 : Fn := ⟨1, 2, [.sub (.var 0) (.int 1) (.bin .add (.idx (.var 0) (.int 1)) (.int 1)),
  .ifS (.cmp .le (.idx (.var 0) (.int 1)) (.bi .len [(.idx (.var 0) (.int 0))]))
    [.ret (.idx (.idx (.var 0) (.int 0)) (.bin .sub (.idx (.var 0) (.int 1)) (.int 1)))]
    [],
  .set 1 (.bin .mod (.bin .add (.idx (.var 0) (.int 2)) (.bin .mul (.int 31) (.idx (.var 0) (.int 1)))) (.int 2147483629)),
  .set 1 (.bin .mod (.bin .add (.bin .mul (.var 1) (.var 1)) (.idx (.var 0) (.int 1))) (.int 2147483629)),
  .ret (.bin .mod (.bin .mul (.var 1) (.var 1)) (.int 2147483587))], .fn⟩
def F38i0 : St := .ifS (.cmp .ne (.var 4) (.int 0))
  [.expr (.mt .append (.var 2) [(.tup [(.var 3), (.var 4)])])]
  []
def F38b0 : List St := [.set 4 (.call 36 [false] [(.call 37 [true] [(.var 0)])]),
  F38i0]
/-- _law_terms -/
def F38 : Fn := ⟨2, 5, [.set 2 (.new (.lst [])),
  .forS [3] false (.e (.var 1)) F38b0,
  .ret (.bi .tuple [(.var 2)])], .fn⟩
/-- _law_row -/
def F39 : Fn := ⟨2, 3, [.set 2 (.call 38 [true, false] [(.var 0), (.var 1)]),
  .ret (.tup [(.idx (.fz (.lst [(.str [108, 101, 97, 115, 116]), (.str [109, 111, 114, 101])])) (.bin .mod (.call 37 [true] [(.var 0)]) (.int 2))), (.var 2), (.call 36 [false] [(.call 37 [true] [(.var 0)])])])], .fn⟩
/-- _law_next -/
def F52 : Fn := ⟨1, 2, [.set 1 (.idx (.var 0) (.int 1)),
  .sub (.var 0) (.int 1) (.bin .add (.var 1) (.int 1)),
  .ifS (.cmp .lt (.var 1) (.bi .len [(.idx (.var 0) (.int 0))]))
    [.ret (.callA 10 [false] [(.idx (.idx (.var 0) (.int 0)) (.var 1))])]
    [],
  .ret (.new (.lst [(.int 0), (.int 0)]))], .fn⟩
def F53i0 : St := .ifS (.cmp .gt (.idx (.var 0) (.int 2)) (.int 0))
  [.sub (.var 0) (.int 2) (.bin .sub (.idx (.var 0) (.int 2)) (.int 1)),
    .expr (.mt .append (.var 4) [(.call 55 [true, false, false] [(.var 0), (.var 1), (.var 2)])])]
  []
def F53b0 : List St := [F53i0]
/-- _law_block -/
def F53 : Fn := ⟨3, 6, [.set 3 (.callA 52 [true] [(.var 0)]),
  .set 4 (.new (.lst [])),
  .forS [5] false (.rng [(.idx (.fz (.lst [(.int 0), (.int 1), (.int 2), (.int 1), (.int 3)])) (.call 11 [true, false] [(.var 3), (.int 5)]))]) F53b0,
  .ret (.bi .tuple [(.var 4)])], .fn⟩
def F54i0 : St := .ifS (.cmp .eq (.call 11 [true, false] [(.var 3), (.int 3)]) (.int 1))
  [.set 6 (.tup [(.call 23 [true, false] [(.var 3), (.var 1)]), (.bin .add (.int 1) (.bi .abs [(.call 21 [true] [(.var 3)])]))])]
  []
def F54i1 : St := .ifS (.cmp .lt (.idx (.var 0) (.int 4)) (.var 7))
  [.set 6 .non]
  []
/-- _law_loop -/
def F54 : Fn := ⟨4, 10, [.sub (.var 0) (.int 4) (.bin .sub (.idx (.var 0) (.int 4)) (.int 1)),
  .set 4 (.call 29 [true, false] [(.var 3), (.var 1)]),
  .set 5 (.fz (.comp (.call 29 [true, false] [(.var 3), (.var 1)]) [9] false (.rng [(.call 11 [true, false] [(.var 3), (.int 3)])]) none [9])),
  .set 6 .non,
  F54i0,
  .set 7 (.idx (.var 0) (.int 4)),
  .set 8 (.call 53 [true, false, false] [(.var 0), (.var 1), (.bin .add (.var 2) (.int 1))]),
  F54i1,
  .ret (.tup [(.str [119, 104, 105, 108, 101]), (.var 4), (.bi .tuple [(.var 5)]), (.var 6), (.var 8)])], .fn⟩
/-- _law_statement -/
def F55 : Fn := ⟨3, 9, [.set 3 (.callA 52 [true] [(.var 0)]),
  .set 4 (.call 11 [true, false] [(.var 3), (.int 10)]),
  .ifS (.and (.cmp .eq (.var 4) (.int 0)) (.and (.cmp .lt (.var 2) (.int 4)) (.cmp .gt (.idx (.var 0) (.int 4)) (.int 0))))
    [.ret (.call 54 [true, false, false, true] [(.var 0), (.var 1), (.var 2), (.var 3)])]
    [],
  .ifS (.and (.cmp .eq (.var 4) (.int 1)) (.and (.cmp .lt (.var 2) (.int 4)) (.cmp .gt (.idx (.var 0) (.int 3)) (.int 0))))
    [.sub (.var 0) (.int 3) (.bin .sub (.idx (.var 0) (.int 3)) (.int 1)),
    .ret (.tup [(.str [99, 104, 111, 111, 115, 101]), (.call 53 [true, false, false] [(.var 0), (.var 1), (.bin .add (.var 2) (.int 1))]), (.call 53 [true, false, false] [(.var 0), (.var 1), (.bin .add (.var 2) (.int 1))])])]
    [],
  .ifS (.and (.cmp .eq (.var 4) (.int 2)) (.and (.cmp .lt (.var 2) (.int 4)) (.cmp .gt (.idx (.var 0) (.int 3)) (.int 0))))
    [.sub (.var 0) (.int 3) (.bin .sub (.idx (.var 0) (.int 3)) (.int 1)),
    .set 6 (.call 29 [true, false] [(.var 3), (.var 1)]),
    .ret (.tup [(.str [105, 102]), (.var 6), (.call 53 [true, false, false] [(.var 0), (.var 1), (.bin .add (.var 2) (.int 1))]), (.call 53 [true, false, false] [(.var 0), (.var 1), (.bin .add (.var 2) (.int 1))])])]
    [],
  .ifS (.and (.cmp .eq (.var 4) (.int 3)) (.cmp .gt (.idx (.var 0) (.int 5)) (.int 0)))
    [.sub (.var 0) (.int 5) (.bin .sub (.idx (.var 0) (.int 5)) (.int 1)),
    .ret (.tup [(.str [97, 110, 121]), (.idx (.var 1) (.call 11 [true, false] [(.var 3), (.bi .len [(.var 1)])]))])]
    [],
  .ifS (.and (.cmp .eq (.var 4) (.int 4)) (.cmp .gt (.idx (.var 0) (.int 6)) (.int 0)))
    [.set 7 (.bi .min2 [(.idx (.var 0) (.int 6)), (.bin .add (.int 1) (.call 11 [true, false] [(.var 3), (.int 2)]))]),
    .sub (.var 0) (.int 6) (.bin .sub (.idx (.var 0) (.int 6)) (.var 7)),
    .ret (.tup [(.str [110, 111, 116, 101]), (.bi .tuple [(.fz (.comp (.call 29 [true, false] [(.var 3), (.var 1)]) [8] false (.rng [(.var 7)]) none [8]))])])]
    [],
  .set 5 (.idx (.var 1) (.call 11 [true, false] [(.var 3), (.bi .len [(.var 1)])])),
  .ret (.tup [(.str [115, 101, 116]), (.var 5), (.call 23 [true, false] [(.var 3), (.var 1)])])], .fn⟩
def F56b0 : List St := [.sub (.var 3) (.int 2) (.bin .sub (.idx (.var 3) (.int 2)) (.int 1)),
  .expr (.mt .append (.var 4) [(.call 55 [true, false, false] [(.var 3), (.var 2), (.int 1)])])]
/-- _law_plan -/
def F56 : Fn := ⟨3, 8, [.set 3 (.new (.lst [(.var 0), (.int 0), (.int 24), (.int 2), (.int 2), (.int 1), (.int 2)])),
  .set 4 (.new (.lst [])),
  .wh (.and (.cmp .lt (.idx (.var 3) (.int 1)) (.bi .len [(.var 0)])) (.cmp .gt (.idx (.var 3) (.int 2)) (.int 0))) F56b0,
  .set 5 (.callA 10 [false] [(.var 1)]),
  .set 6 (.fz (.comp (.call 29 [true, false] [(.var 5), (.var 2)]) [7] false (.rng [(.call 11 [true, false] [(.var 5), (.int 3)])]) none [7])),
  .ret (.tup [(.var 2), (.bi .tuple [(.var 6)]), (.bi .tuple [(.var 4)])])], .fn⟩
/-- blocks_of -/
def F59 : Fn := ⟨1, 2, [.set 1 (.idx (.var 0) (.int 0)),
  .ifS (.cmp .eq (.var 1) (.str [99, 104, 111, 111, 115, 101]))
    [.ret (.fz (.lst [(.idx (.var 0) (.int 1)), (.idx (.var 0) (.int 2))]))]
    [],
  .ifS (.cmp .eq (.var 1) (.str [105, 102]))
    [.ret (.fz (.lst [(.idx (.var 0) (.int 2)), (.idx (.var 0) (.int 3))]))]
    [],
  .ifS (.cmp .eq (.var 1) (.str [119, 104, 105, 108, 101]))
    [.ret (.fz (.lst [(.idx (.var 0) (.int 4))]))]
    [],
  .ret (.fz (.lst []))], .fn⟩
def F60b1 : List St := [.ext 2 (.call 60 [false, false] [(.var 7), (.bin .add (.var 5) (.tup [(.var 6)]))])]
def F60b0 : List St := [.set 5 (.bin .add (.var 1) (.tup [(.var 3)])),
  .expr (.mt .append (.var 2) [(.tup [(.var 5), (.var 4)])]),
  .forS [6, 7] true (.enum (.call 59 [false] [(.var 4)])) F60b1]
/-- placed -/
def F60 : Fn := ⟨2, 8, [.set 2 (.new (.lst [])),
  .forS [3, 4] true (.enum (.var 0)) F60b0,
  .ret (.var 2)], .fn⟩
/-- must_be_few -/
def F61 : Fn := ⟨2, 2, [.ifS (.cmp .gt (.var 0) (.var 1))
    [.nev]
    []], .fn⟩
/-- counted -/
def F62 : Fn := ⟨2, 4, [.ret (.bi .len [(.fz (.comp (.var 3) [2, 3] true (.e (.var 0)) (some (.cmp .inn (.idx (.var 3) (.int 0)) (.var 1))) [2, 3]))])], .fn⟩
/-- must_bounds -/
def F63 : Fn := ⟨2, 4, [.expr (.call 61 [false, false] [(.bi .len [(.var 0)]), (.gl [77, 79, 83, 84, 95, 78, 65, 77, 69, 83] (.int 3))]),
  .expr (.call 61 [false, false] [(.bi .len [(.var 1)]), (.gl [77, 79, 83, 84, 95, 83, 84, 65, 84, 69, 77, 69, 78, 84, 83] (.int 24))]),
  .expr (.call 61 [false, false] [(.bi .maxD [(.fz (.comp (.bin .add (.bin .fdiv (.bi .len [(.var 2)]) (.int 2)) (.int 1)) [2, 3] true (.e (.var 1)) none [2, 3])), (.int 0)]), (.gl [77, 79, 83, 84, 95, 68, 69, 80, 84, 72] (.int 4))]),
  .expr (.call 61 [false, false] [(.call 62 [false, false] [(.var 1), (.fz (.lst [(.str [99, 104, 111, 111, 115, 101]), (.str [105, 102])]))]), (.gl [77, 79, 83, 84, 95, 66, 82, 65, 78, 67, 72, 69, 83] (.int 2))]),
  .expr (.call 61 [false, false] [(.call 62 [false, false] [(.var 1), (.fz (.lst [(.str [119, 104, 105, 108, 101])]))]), (.gl [77, 79, 83, 84, 95, 76, 79, 79, 80, 83] (.int 2))]),
  .expr (.call 61 [false, false] [(.call 62 [false, false] [(.var 1), (.fz (.lst [(.str [97, 110, 121])]))]), (.gl [77, 79, 83, 84, 95, 71, 73, 86, 69, 78] (.int 1))]),
  .expr (.call 61 [false, false] [(.bi .sum [(.fz (.comp (.bi .len [(.idx (.var 3) (.int 1))]) [2, 3] true (.e (.var 1)) (some (.cmp .eq (.idx (.var 3) (.int 0)) (.str [110, 111, 116, 101]))) [2, 3]))]), (.gl [77, 79, 83, 84, 95, 78, 79, 84, 69, 68] (.int 2))])], .fn⟩
def F64b0 : List St := [.ifS (.cmp .notin (.var 2) (.var 1))
    [.nev]
    []]
/-- must_have -/
def F64 : Fn := ⟨2, 3, [.forS [2] false (.e (.var 0)) F64b0], .fn⟩
def F65b0 : List St := [.ext 1 (.fz (.comp (.var 3) [3, 4] true (.e (.idx (.var 2) (.int 1))) none [3, 4]))]
/-- names_in -/
def F65 : Fn := ⟨1, 5, [.set 1 (.new (.lst [])),
  .forS [2] false (.e (.var 0)) F65b0,
  .ret (.var 1)], .fn⟩
def F66i1 : St := .ifS (.cmp .isnot (.idx (.var 0) (.int 3)) .non)
  [.ext 2 (.fz (.comp (.var 3) [3, 4] true (.e (.idx (.idx (.idx (.var 0) (.int 3)) (.int 0)) (.int 0))) none [3, 4]))]
  []
def F66i0 : St := .ifS (.cmp .eq (.var 1) (.str [119, 104, 105, 108, 101]))
  [.set 2 (.new (.cat (.call 65 [false] [(.fz (.lst [(.idx (.var 0) (.int 1))]))]) (.call 65 [false] [(.idx (.var 0) (.int 2))]))),
    F66i1]
  []
/-- names_by -/
def F66 : Fn := ⟨1, 5, [.set 1 (.idx (.var 0) (.int 0)),
  .ifS (.cmp .eq (.var 1) (.str [115, 101, 116]))
    [.ret (.bin .add (.fz (.lst [(.idx (.var 0) (.int 1))])) (.fz (.comp (.var 3) [3, 4] true (.e (.idx (.idx (.var 0) (.int 2)) (.int 0))) none [3, 4])))]
    [],
  .ifS (.cmp .eq (.var 1) (.str [97, 110, 121]))
    [.ret (.fz (.lst [(.idx (.var 0) (.int 1))]))]
    [],
  .ifS (.cmp .eq (.var 1) (.str [110, 111, 116, 101]))
    [.ret (.call 65 [false] [(.idx (.var 0) (.int 1))])]
    [],
  .ifS (.cmp .eq (.var 1) (.str [105, 102]))
    [.ret (.call 65 [false] [(.fz (.lst [(.idx (.var 0) (.int 1))]))])]
    [],
  .set 2 (.new (.lst [])),
  F66i0,
  .ret (.var 2)], .fn⟩
/-- has_loop -/
def F67 : Fn := ⟨1, 1, [.ret (.cmp .gt (.call 62 [false, false] [(.call 60 [false, false] [(.var 0), (.tup [])]), (.fz (.lst [(.str [119, 104, 105, 108, 101])]))]) (.int 0))], .fn⟩
def F68b0 : List St := [.expr (.call 64 [false, false] [(.call 66 [false] [(.var 6)]), (.var 2)]),
  .ifS (.and (.cmp .eq (.idx (.var 6) (.int 0)) (.str [119, 104, 105, 108, 101])) (.and (.cmp .isnot (.idx (.var 6) (.int 3)) .non) (.call 67 [false] [(.idx (.var 6) (.int 4))])))
    [.nev]
    []]
/-- must_plan -/
def F68 : Fn := ⟨1, 7, [.setT [2, 3, 4] (.var 0),
  .set 1 (.call 60 [false, false] [(.var 4), (.tup [])]),
  .expr (.call 63 [false, false] [(.var 2), (.var 1)]),
  .expr (.call 64 [false, false] [(.call 65 [false] [(.var 3)]), (.var 2)]),
  .forS [5, 6] true (.e (.var 1)) F68b0], .fn⟩
/-- _law_rows -/
def F48 : Fn := ⟨3, 4, [.ret (.bi .tuple [(.fz (.comp (.call 39 [true, false] [(.var 0), (.var 1)]) [3] false (.rng [(.var 2)]) none [3]))])], .fn⟩
/-- _law_one -/
def F102 : Fn := ⟨3, 3, [.ifS (.cmp .eq (.var 1) (.int 0))
    [.ret (.tup [(.tup []), (.var 2), (.int 1)])]
    [],
  .ret (.tup [(.tup [(.tup [(.var 0), (.var 1)])]), (.var 2), (.int 1)])], .fn⟩
def F103i0 : St := .ifS (.cmp .eq (.bin .mod (.var 2) (.int 3)) (.int 1))
  [.set 12 (.tup [(.str [99, 104, 111, 111, 115, 101]), (.tup [(.idx (.var 6) (.int 0))]), (.bi .tuple [(.var 6)])]),
    .set 11 (.bin .add (.slc (.var 11) none (some (.int 3))) (.tup [.non, (.tup [(.var 12), (.tup [(.str [115, 101, 116]), (.var 4), (.call 102 [false, false, false] [(.var 4), (.int 1), (.bin .mod (.call 37 [true] [(.var 0)]) (.int 2))])])])]))]
  []
/-- _law_tail -/
def F103 : Fn := ⟨3, 13, [.set 3 (.idx (.var 1) (.int 0)),
  .set 4 (.idx (.var 1) (.neg (.int 1))),
  .set 5 (.bin .add (.int 1) (.bin .mod (.call 37 [true] [(.var 0)]) (.int 3))),
  .set 6 (.fz (.lst [(.tup [(.str [115, 101, 116]), (.var 3), (.call 102 [false, false, false] [(.var 3), (.int 1), (.bin .sub (.int 0) (.var 5))])]), (.tup [(.str [115, 101, 116]), (.var 4), (.call 102 [false, false, false] [(.var 4), (.int 1), (.var 5)])])])),
  .set 7 (.idx (.tup [(.tup [(.tup [(.var 3), (.int 1)]), (.tup [(.var 4), (.int 1)])]), (.tup [(.tup [(.var 3), (.int 2)])])]) (.bi .int [(.cmp .eq (.var 3) (.var 4))])),
  .set 8 (.bin .sub (.bin .mod (.call 37 [true] [(.var 0)]) (.int 5)) (.int 2)),
  .set 9 (.tup [(.tup [(.str [108, 101, 97, 115, 116]), (.tup [(.tup [(.var 3), (.int 1)])]), (.bin .sub (.bin .sub (.int 1) (.var 5)) (.bin .mod (.call 37 [true] [(.var 0)]) (.int 2)))]), (.tup [(.str [108, 101, 97, 115, 116]), (.var 7), (.var 8)])]),
  .set 10 (.tup [(.str [108, 101, 97, 115, 116]), (.tup [(.tup [(.var 3), (.int 1)])]), (.int 1)]),
  .set 11 (.tup [(.str [119, 104, 105, 108, 101]), (.var 10), (.var 9), (.tup [(.call 102 [false, false, false] [(.var 3), (.int 1), (.int 0)]), (.var 5)]), (.bi .tuple [(.var 6)])]),
  F103i0,
  .ret (.fz (.lst [(.var 11), (.tup [(.str [110, 111, 116, 101]), (.tup [(.tup [(.str [108, 101, 97, 115, 116]), (.var 7), (.bin .sub (.var 8) (.bin .mod (.call 37 [true] [(.var 0)]) (.int 2)))])])])]))], .fn⟩
def F104i0 : St := .ifS (.cmp .eq (.idx (.var 2) (.int 0)) (.str [119, 104, 105, 108, 101]))
  [.set 1 (.bin .add (.bin .add (.var 1) (.int 1)) (.call 104 [false] [(.idx (.var 2) (.int 4))]))]
  []
def F104i1 : St := .ifS (.cmp .eq (.idx (.var 2) (.int 0)) (.str [99, 104, 111, 111, 115, 101]))
  [.set 1 (.bin .add (.bin .add (.var 1) (.call 104 [false] [(.idx (.var 2) (.int 1))])) (.call 104 [false] [(.idx (.var 2) (.int 2))]))]
  []
def F104i2 : St := .ifS (.cmp .eq (.idx (.var 2) (.int 0)) (.str [105, 102]))
  [.set 1 (.bin .add (.bin .add (.var 1) (.call 104 [false] [(.idx (.var 2) (.int 2))])) (.call 104 [false] [(.idx (.var 2) (.int 3))]))]
  []
def F104b0 : List St := [F104i0,
  F104i1,
  F104i2]
/-- _law_loops -/
def F104 : Fn := ⟨1, 3, [.set 1 (.int 0),
  .forS [2] false (.e (.var 0)) F104b0,
  .ret (.var 1)], .fn⟩
/-- _law_sum -/
def F47 : Fn := ⟨2, 3, [.set 2 (.call 38 [true, false] [(.var 0), (.var 1)]),
  .ret (.tup [(.var 2), (.call 36 [false] [(.call 37 [true] [(.var 0)])]), (.bin .add (.int 1) (.bi .max2 [(.int 0), (.bin .sub (.bin .mod (.call 37 [true] [(.var 0)]) (.int 8)) (.int 5))]))])], .fn⟩
def F105i0 : St := .ifS (.and (.cmp .eq (.bin .mod (.call 37 [true] [(.var 0)]) (.int 2)) (.int 0)) (.cmp .eq (.call 104 [false] [(.var 6)]) (.int 0)))
  [.set 7 (.tup [(.call 47 [true, false] [(.var 0), (.var 1)]), (.bin .add (.int 1) (.bin .mod (.call 37 [true] [(.var 0)]) (.int 3)))])]
  []
/-- _law_loop -/
def F105 : Fn := ⟨4, 8, [.set 4 (.call 39 [true, false] [(.var 0), (.var 1)]),
  .set 5 (.call 48 [true, false, false] [(.var 0), (.var 1), (.bin .mod (.call 37 [true] [(.var 0)]) (.int 3))]),
  .set 6 (.call 107 [true, false, false, true] [(.var 0), (.var 1), (.bin .sub (.var 2) (.int 1)), (.var 3)]),
  .set 7 .non,
  F105i0,
  .ret (.tup [(.str [119, 104, 105, 108, 101]), (.var 4), (.var 5), (.var 7), (.var 6)])], .fn⟩
/-- _law_statement -/
def F106 : Fn := ⟨4, 10, [.set 4 (.bin .mod (.call 37 [true] [(.var 0)]) (.int 12)),
  .set 5 (.idx (.var 1) (.bin .mod (.call 37 [true] [(.var 0)]) (.bi .len [(.var 1)]))),
  .ifS (.and (.cmp .eq (.var 4) (.int 11)) (.cmp .gt (.idx (.var 3) (.int 3)) (.int 0)))
    [.sub (.var 3) (.int 3) (.bin .sub (.idx (.var 3) (.int 3)) (.int 1)),
    .ret (.tup [(.str [97, 110, 121]), (.var 5)])]
    [],
  .ifS (.and (.cmp .gt (.var 4) (.int 8)) (.and (.cmp .gt (.idx (.var 3) (.int 2)) (.int 0)) (.cmp .gt (.var 2) (.int 0))))
    [.sub (.var 3) (.int 2) (.bin .sub (.idx (.var 3) (.int 2)) (.int 1)),
    .ret (.call 105 [true, false, false, true] [(.var 0), (.var 1), (.var 2), (.var 3)])]
    [],
  .ifS (.and (.cmp .gt (.var 4) (.int 5)) (.and (.cmp .gt (.idx (.var 3) (.int 1)) (.int 0)) (.cmp .gt (.var 2) (.int 0))))
    [.sub (.var 3) (.int 1) (.bin .sub (.idx (.var 3) (.int 1)) (.int 1)),
    .set 6 (.call 39 [true, false] [(.var 0), (.var 1)]),
    .set 7 (.call 107 [true, false, false, true] [(.var 0), (.var 1), (.bin .sub (.var 2) (.int 1)), (.var 3)]),
    .set 8 (.call 107 [true, false, false, true] [(.var 0), (.var 1), (.bin .sub (.var 2) (.int 1)), (.var 3)]),
    .ret (.idx (.fz (.lst [(.tup [(.str [99, 104, 111, 111, 115, 101]), (.var 7), (.var 8)]), (.tup [(.str [105, 102]), (.var 6), (.var 7), (.var 8)])])) (.bin .mod (.var 4) (.int 2)))]
    [],
  .ifS (.and (.cmp .gt (.var 4) (.int 3)) (.cmp .gt (.idx (.var 3) (.int 4)) (.int 0)))
    [.set 9 (.call 48 [true, false, false] [(.var 0), (.var 1), (.bi .min2 [(.idx (.var 3) (.int 4)), (.bin .add (.int 1) (.bin .mod (.call 37 [true] [(.var 0)]) (.int 2)))])]),
    .sub (.var 3) (.int 4) (.bin .sub (.idx (.var 3) (.int 4)) (.bi .len [(.var 9)])),
    .ret (.tup [(.str [110, 111, 116, 101]), (.var 9)])]
    [],
  .ret (.tup [(.str [115, 101, 116]), (.var 5), (.call 47 [true, false] [(.var 0), (.var 1)])])], .fn⟩
def F107i0 : St := .ifS (.cmp .gt (.idx (.var 3) (.int 0)) (.int 0))
  [.sub (.var 3) (.int 0) (.bin .sub (.idx (.var 3) (.int 0)) (.int 1)),
    .expr (.mt .append (.var 4) [(.call 106 [true, false, false, true] [(.var 0), (.var 1), (.var 2), (.var 3)])])]
  []
def F107b0 : List St := [F107i0]
/-- _law_block -/
def F107 : Fn := ⟨4, 6, [.set 4 (.new (.lst [])),
  .forS [5] false (.rng [(.bin .add (.bin .mod (.call 37 [true] [(.var 0)]) (.int 4)) (.bi .int [(.cmp .eq (.var 2) (.int 3))]))]) F107b0,
  .ret (.bi .tuple [(.var 4)])], .fn⟩
/-- _law_menu -/
def F108 : Fn := ⟨3, 14, [.set 3 (.idx (.var 1) (.int 0)),
  .set 4 (.idx (.var 1) (.neg (.int 1))),
  .set 5 (.call 103 [true, false, false] [(.var 0), (.var 1), (.var 2)]),
  .set 6 (.fz (.lst [(.tup [(.str [108, 101, 97, 115, 116]), (.tup [(.tup [(.var 3), (.int 1)])]), (.bin .sub (.bin .mod (.call 37 [true] [(.var 0)]) (.int 3)) (.int 1))]), (.idx (.idx (.idx (.var 5) (.int 1)) (.int 1)) (.int 0))])),
  .ifS (.cmp .eq (.bin .mod (.bin .fdiv (.var 2) (.int 3)) (.int 4)) (.int 0))
    [.ret (.tup [(.var 1), (.bi .tuple [(.var 6)]), (.bi .tuple [(.var 5)])])]
    [],
  .ifS (.cmp .eq (.bin .mod (.bin .fdiv (.var 2) (.int 3)) (.int 4)) (.int 1))
    [.set 8 (.fz (.lst [(.tup [(.tup [(.str [115, 101, 116]), (.var 3), (.call 102 [false, false, false] [(.var 4), (.int 1), (.int 0)])])]), (.tup [(.tup [(.str [115, 101, 116]), (.var 3), (.call 102 [false, false, false] [(.var 4), (.neg (.int 1)), (.int 0)])])])])),
    .set 9 (.tup [(.str [105, 102]), (.tup [(.str [109, 111, 114, 101]), (.tup [(.tup [(.var 4), (.int 1)])]), (.int 0)]), (.idx (.var 8) (.int 0)), (.idx (.var 8) (.int 1))]),
    .set 10 (.tup [(.str [110, 111, 116, 101]), (.tup [(.tup [(.str [108, 101, 97, 115, 116]), (.tup [(.tup [(.var 3), (.int 1)])]), (.bin .sub (.int 0) (.bin .mod (.call 37 [true] [(.var 0)]) (.int 2)))])])]),
    .ret (.tup [(.var 1), (.tup []), (.tup [(.tup [(.str [97, 110, 121]), (.var 4)]), (.var 9), (.var 10)])])]
    [],
  .ifS (.cmp .eq (.bin .mod (.bin .fdiv (.var 2) (.int 3)) (.int 4)) (.int 2))
    [.set 11 (.fz (.lst [(.tup [(.str [115, 101, 116]), (.var 4), (.call 102 [false, false, false] [(.var 4), (.int 1), (.neg (.int 1))])]), (.tup [(.str [115, 101, 116]), (.var 3), (.call 102 [false, false, false] [(.var 3), (.int 1), (.neg (.int 1))])])])),
    .set 12 (.tup [(.str [119, 104, 105, 108, 101]), (.tup [(.str [109, 111, 114, 101]), (.tup [(.tup [(.var 4), (.int 1)])]), (.int 0)]), (.slc (.idx (.idx (.var 5) (.int 0)) (.int 2)) none (some (.int 1))), (.tup [(.call 102 [false, false, false] [(.var 4), (.int 1), (.int 0)]), (.int 1)]), (.tup [(.idx (.var 11) (.int 0))])]),
    .set 13 (.tup [(.str [119, 104, 105, 108, 101]), (.tup [(.str [108, 101, 97, 115, 116]), (.tup [(.tup [(.var 3), (.int 1)])]), (.int 1)]), (.idx (.idx (.var 5) (.int 0)) (.int 2)), .non, (.tup [(.tup [(.str [97, 110, 121]), (.var 4)]), (.var 12), (.idx (.var 11) (.int 1))])]),
    .ret (.tup [(.var 1), (.bi .tuple [(.slc (.var 6) none (some (.int 1)))]), (.tup [(.var 13), (.tup [(.str [110, 111, 116, 101]), (.tup [(.call 39 [true, false] [(.var 0), (.var 1)])])])])])]
    [],
  .set 7 (.call 107 [true, false, false, true] [(.var 0), (.var 1), (.int 1), (.new (.lst [(.int 4), (.int 1), (.int 0), (.int 1), (.int 1)]))]),
  .ret (.tup [(.var 1), (.bi .tuple [(.var 6)]), (.bin .add (.var 7) (.bi .tuple [(.var 5)]))])], .fn⟩
def F109i0 : St := .ifS (.cmp .ne (.var 0) (.fz (.lst [])))
  [.set 1 (.idx (.var 0) (.int 0))]
  []
/-- _law_plan -/
def F109 : Fn := ⟨1, 5, [.set 1 (.int 0),
  F109i0,
  .set 2 (.new (.lst [(.slc (.var 0) (some (.int 1)) (some (.int 63))), (.int 0), (.var 1)])),
  .set 3 (.call 35 [false] [(.var 1)]),
  .ifS (.cmp .gt (.bin .mod (.bin .fdiv (.var 1) (.int 3)) (.int 3)) (.int 0))
    [.ret (.call 108 [true, false, false] [(.var 2), (.var 3), (.bin .fdiv (.var 1) (.int 9))])]
    [],
  .set 4 (.call 48 [true, false, false] [(.var 2), (.var 3), (.bin .mod (.call 37 [true] [(.var 2)]) (.int 3))]),
  .ret (.tup [(.var 3), (.var 4), (.call 107 [true, false, false, true] [(.var 2), (.var 3), (.int 3), (.new (.lst [(.int 24), (.int 2), (.int 2), (.int 1), (.int 2)]))])])], .fn⟩
def F110b0 : List St := [.par 2 3 (.var 3) (.bin .mod (.var 2) (.var 3))]
def F110i0 : St := .ifS (.or (.chain .lt .lt (.var 1) (.int 0) (.var 2)) (.chain .gt .gt (.var 1) (.int 0) (.var 2)))
  [.set 2 (.bin .sub (.int 0) (.var 2))]
  []
/-- _law_made -/
def F110 : Fn := ⟨2, 4, [.par 2 3 (.var 0) (.var 1),
  .wh (.cmp .ne (.var 3) (.int 0)) F110b0,
  F110i0,
  .ret (.tup [(.bin .fdiv (.var 0) (.var 2)), (.bin .fdiv (.var 1) (.var 2))])], .fn⟩
def F111b0 : List St := [.set 4 (.call 20 [false, false] [(.var 1), (.var 3)]),
  .set 5 (.bin .fdiv (.var 4) (.int 4)),
  .set 6 (.idx (.fz (.lst [(.bin .sub (.bin .mod (.var 5) (.int 13)) (.int 3)), (.bin .sub (.bin .mod (.var 5) (.int 200)) (.int 50)), (.bin .mod (.var 5) (.int 7)), (.bin .mod (.var 5) (.bin .pow (.int 10) (.int 30)))])) (.bin .mod (.var 4) (.int 4))),
  .sub (.var 2) (.idx (.var 0) (.var 3)) (.call 110 [false, false] [(.var 6), (.bin .add (.int 1) (.bi .max2 [(.int 0), (.bin .sub (.bin .mod (.bin .fdiv (.var 4) (.int 11)) (.int 9)) (.int 6))]))])]
/-- _law_start -/
def F111 : Fn := ⟨2, 7, [.set 2 (.new (.dic [])),
  .forS [3] false (.rng [(.bi .len [(.var 0)])]) F111b0,
  .ret (.var 2)], .fn⟩
/-- _law_turns -/
def F112 : Fn := ⟨1, 2, [.ret (.fz (.comp (.bin .mod (.bin .fdiv (.var 1) (.int 3)) (.int 2)) [1] false (.e (.var 0)) none [1]))], .fn⟩
/-- _law_givens -/
def F113 : Fn := ⟨1, 2, [.ret (.fz (.comp (.call 110 [false, false] [(.bin .sub (.bin .mod (.bin .fdiv (.var 1) (.int 2)) (.int 41)) (.int 20)), (.bin .add (.int 1) (.bin .mod (.bin .fdiv (.var 1) (.int 100)) (.int 3)))]) [1] false (.e (.var 0)) none [1]))], .fn⟩
def F114b0 : List St := [.sub (.attr 1 (.var 0) [112, 111, 105, 110, 116]) (.var 5) (.idx (.var 2) (.var 5))]
/-- Run.__init__ -/
def F114 : Fn := ⟨5, 6, [.setA 1 (.var 0) [112, 111, 105, 110, 116] (.new (.dic [])),
  .forS [5] false (.e (.var 1)) F114b0,
  .setA 1 (.var 0) [116, 117, 114, 110, 115] (.new (.list (.var 3))),
  .setA 1 (.var 0) [103, 105, 118, 101, 110, 115] (.new (.list (.var 4))),
  .setA 1 (.var 0) [100, 101, 101, 100, 115] (.int 0),
  .setA 1 (.var 0) [112, 97, 115, 115, 101, 100] (.new (.lst [])),
  .setA 1 (.var 0) [111, 118, 101, 114] .non], .me⟩
/-- Run! -/
def F115 : Fn := ⟨4, 0, [], .mk 1 114⟩
/-- all_so -/
def F116 : Fn := ⟨2, 3, [.ret (.bi .all [(.fz (.comp (.call 31 [false, false] [(.var 2), (.var 1)]) [2] false (.e (.var 0)) none [2]))])], .fn⟩
/-- Run.stops -/
def F117 : Fn := ⟨3, 3, [.setA 1 (.var 0) [111, 118, 101, 114] (.tup [(.var 1), (.attr 1 (.var 0) [112, 97, 115, 115, 101, 100]), (.var 2), (.fz (.dict (.attr 1 (.var 0) [112, 111, 105, 110, 116])))])], .me⟩
/-- Run.counts -/
def F118 : Fn := ⟨2, 2, [.ifS (.cmp .eq (.attr 1 (.var 0) [100, 101, 101, 100, 115]) (.gl [77, 79, 83, 84, 95, 68, 69, 69, 68, 83] (.int 300)))
    [.expr (.meth 1 117 [115, 116, 111, 112, 115] (.var 0) [(.str [103, 111, 105, 110, 103]), (.var 1)]),
    .ret (.bl false)]
    [],
  .augA 1 (.var 0) [100, 101, 101, 100, 115] .add (.int 1),
  .ret (.bl true)], .me⟩
/-- Run.passes -/
def F119 : Fn := ⟨2, 2, [.expr (.mt .append (.attr 1 (.var 0) [112, 97, 115, 115, 101, 100]) [(.tup [(.var 1), (.fz (.dict (.attr 1 (.var 0) [112, 111, 105, 110, 116])))])])], .me⟩
/-- falls -/
def F120 : Fn := ⟨3, 3, [.ret (.or (.cmp .is (.var 2) .non) (.not (.call 7 [false, false] [(.call 14 [false, false] [(.var 2), (.call 26 [false, false] [(.idx (.var 0) (.int 0)), (.var 1)])]), (.call 3 [false, false] [(.idx (.var 0) (.int 1)), (.int 1)])])))], .fn⟩
def F121i0 : St := .ifS (.cmp .isnot (.var 8) .non)
  [.set 5 (.and (.var 5) (.call 120 [false, false, false] [(.var 8), (.attr 1 (.var 0) [112, 111, 105, 110, 116]), (.var 3)])),
    .set 5 (.and (.var 5) (.or (.not (.var 4)) (.not (.call 7 [false, false] [(.call 26 [false, false] [(.idx (.var 8) (.int 0)), (.attr 1 (.var 0) [112, 111, 105, 110, 116])]), (.tup [(.int 0), (.int 1)])]))))]
  []
def F121i1 : St := .ifS (.var 5)
  [.expr (.meth 1 119 [112, 97, 115, 115, 101, 115] (.var 0) [(.var 2)])]
  [.expr (.meth 1 117 [115, 116, 111, 112, 115] (.var 0) [(.str [98, 114, 111, 107, 101, 110]), (.var 2)])]
/-- Run.head -/
def F121 : Fn := ⟨4, 9, [.setT [6, 7, 8] (.slc (.var 1) (some (.int 1)) (some (.int 4))),
  .set 4 (.call 31 [false, false] [(.var 6), (.attr 1 (.var 0) [112, 111, 105, 110, 116])]),
  .set 5 (.call 116 [false, false] [(.var 7), (.attr 1 (.var 0) [112, 111, 105, 110, 116])]),
  F121i0,
  F121i1,
  .ret (.var 4)], .me⟩
def F122i1 : St := .ifS (.cmp .isnot (.idx (.var 1) (.int 3)) .non)
  [.set 3 (.call 26 [false, false] [(.idx (.idx (.var 1) (.int 3)) (.int 0)), (.attr 1 (.var 0) [112, 111, 105, 110, 116])])]
  []
def F122i0 : St := .ifS (.and (.var 4) (.cmp .is (.attr 1 (.var 0) [111, 118, 101, 114]) .non))
  [F122i1,
    .expr (.meth 1 125 [98, 108, 111, 99, 107] (.var 0) [(.idx (.var 1) (.int 4)), (.bin .add (.var 2) (.tup [(.int 0)]))])]
  []
def F122b0 : List St := [.set 4 (.meth 1 121 [104, 101, 97, 100] (.var 0) [(.var 1), (.var 2), (.var 3)]),
  F122i0]
/-- Run.loop -/
def F122 : Fn := ⟨3, 5, [.set 3 .non,
  .set 4 (.bl true),
  .wh (.and (.var 4) (.and (.cmp .is (.attr 1 (.var 0) [111, 118, 101, 114]) .non) (.meth 1 118 [99, 111, 117, 110, 116, 115] (.var 0) [(.var 2)]))) F122b0], .me⟩
def F123i2 : St := .ifS (.cmp .eq (.attr 1 (.var 0) [103, 105, 118, 101, 110, 115]) (.fz (.lst [])))
  [.expr (.meth 1 117 [115, 116, 111, 112, 115] (.var 0) [(.str [119, 97, 110, 116, 105, 110, 103]), (.var 2)])]
  [.sub (.attr 1 (.var 0) [112, 111, 105, 110, 116]) (.idx (.var 1) (.int 1)) (.mt .popAt (.attr 1 (.var 0) [103, 105, 118, 101, 110, 115]) [(.int 0)])]
def F123i4 : St := .ifS (.call 116 [false, false] [(.idx (.var 1) (.int 1)), (.attr 1 (.var 0) [112, 111, 105, 110, 116])])
  [.expr (.meth 1 119 [112, 97, 115, 115, 101, 115] (.var 0) [(.var 2)])]
  [.expr (.meth 1 117 [115, 116, 111, 112, 115] (.var 0) [(.str [98, 114, 111, 107, 101, 110]), (.var 2)])]
def F123i6 : St := .ifS (.cmp .eq (.attr 1 (.var 0) [116, 117, 114, 110, 115]) (.fz (.lst [])))
  [.expr (.meth 1 117 [115, 116, 111, 112, 115] (.var 0) [(.str [119, 97, 110, 116, 105, 110, 103]), (.var 2)])]
  [.set 4 (.mt .popAt (.attr 1 (.var 0) [116, 117, 114, 110, 115]) [(.int 0)]),
    .expr (.meth 1 125 [98, 108, 111, 99, 107] (.var 0) [(.idx (.var 1) (.bin .add (.int 1) (.var 4))), (.bin .add (.var 2) (.tup [(.var 4)]))])]
def F123i5 : St := .ifS (.cmp .eq (.var 3) (.str [99, 104, 111, 111, 115, 101]))
  [F123i6]
  [.set 4 (.bi .int [(.not (.call 31 [false, false] [(.idx (.var 1) (.int 1)), (.attr 1 (.var 0) [112, 111, 105, 110, 116])]))]),
    .expr (.meth 1 125 [98, 108, 111, 99, 107] (.var 0) [(.idx (.var 1) (.bin .add (.int 2) (.var 4))), (.bin .add (.var 2) (.tup [(.var 4)]))])]
def F123i3 : St := .ifS (.cmp .eq (.var 3) (.str [110, 111, 116, 101]))
  [F123i4]
  [F123i5]
def F123i1 : St := .ifS (.cmp .eq (.var 3) (.str [97, 110, 121]))
  [F123i2]
  [F123i3]
def F123i0 : St := .ifS (.cmp .eq (.var 3) (.str [115, 101, 116]))
  [.sub (.attr 1 (.var 0) [112, 111, 105, 110, 116]) (.idx (.var 1) (.int 1)) (.call 26 [false, false] [(.idx (.var 1) (.int 2)), (.attr 1 (.var 0) [112, 111, 105, 110, 116])])]
  [F123i1]
/-- Run.plain -/
def F123 : Fn := ⟨3, 5, [.set 3 (.idx (.var 1) (.int 0)),
  F123i0], .me⟩
def F124i1 : St := .ifS (.meth 1 118 [99, 111, 117, 110, 116, 115] (.var 0) [(.var 2)])
  [.expr (.meth 1 123 [112, 108, 97, 105, 110] (.var 0) [(.var 1), (.var 2)])]
  []
def F124i0 : St := .ifS (.cmp .eq (.idx (.var 1) (.int 0)) (.str [119, 104, 105, 108, 101]))
  [.expr (.meth 1 122 [108, 111, 111, 112] (.var 0) [(.var 1), (.var 2)])]
  [F124i1]
/-- Run.statement -/
def F124 : Fn := ⟨3, 3, [F124i0], .me⟩
def F125i0 : St := .ifS (.cmp .is (.attr 1 (.var 0) [111, 118, 101, 114]) .non)
  [.expr (.meth 1 124 [115, 116, 97, 116, 101, 109, 101, 110, 116] (.var 0) [(.idx (.var 1) (.var 3)), (.bin .add (.var 2) (.tup [(.var 3)]))])]
  []
def F125b0 : List St := [F125i0]
/-- Run.block -/
def F125 : Fn := ⟨3, 4, [.forS [3] false (.rng [(.bi .len [(.var 1)])]) F125b0], .me⟩
def F126i1 : St := .ifS (.cmp .is (.attr 1 (.var 4) [111, 118, 101, 114]) .non)
  [.expr (.meth 1 117 [115, 116, 111, 112, 115] (.var 4) [(.str [100, 111, 110, 101]), (.tup [])])]
  []
def F126i0 : St := .ifS (.not (.call 116 [false, false] [(.var 6), (.attr 1 (.var 4) [112, 111, 105, 110, 116])]))
  [.expr (.meth 1 117 [115, 116, 111, 112, 115] (.var 4) [(.str [117, 110, 109, 101, 116]), (.tup [])])]
  [.expr (.meth 1 125 [98, 108, 111, 99, 107] (.var 4) [(.var 7), (.tup [])]),
    F126i1]
/-- run -/
def F126 : Fn := ⟨4, 8, [.expr (.call 68 [false] [(.var 0)]),
  .setT [5, 6, 7] (.var 0),
  .expr (.call 64 [false, false] [(.var 5), (.var 1)]),
  .set 4 (.make 115 [(.var 5), (.var 1), (.var 2), (.var 3)]),
  F126i0,
  .ret (.attr 1 (.var 4) [111, 118, 101, 114])], .fn⟩
/-- _law_at -/
def F127 : Fn := ⟨2, 3, [.set 2 (.idx (.var 0) (.idx (.var 1) (.int 0))),
  .ifS (.cmp .eq (.bi .len [(.var 1)]) (.int 1))
    [.ret (.var 2)]
    [],
  .ifS (.cmp .eq (.idx (.var 2) (.int 0)) (.str [119, 104, 105, 108, 101]))
    [.ret (.call 127 [false, false] [(.idx (.var 2) (.int 4)), (.slc (.var 1) (some (.int 2)) none)])]
    [],
  .ret (.call 127 [false, false] [(.idx (.var 2) (.bin .add (.bin .add (.idx (.var 1) (.int 1)) (.int 1)) (.bi .int [(.cmp .eq (.idx (.var 2) (.int 0)) (.str [105, 102]))]))), (.slc (.var 1) (some (.int 2)) none)])], .fn⟩
/-- _law_good -/
def F128 : Fn := ⟨5, 9, [.set 5 (.call 126 [false, false, false, false] [(.var 0), (.var 1), (.var 2), (.var 3)]),
  .set 6 (.slc (.var 2) none (some (.bin .mod (.var 4) (.bin .add (.bi .len [(.var 2)]) (.int 1))))),
  .set 7 (.slc (.var 3) none (some (.bin .mod (.bin .fdiv (.var 4) (.int 30)) (.bin .add (.bi .len [(.var 3)]) (.int 1))))),
  .set 8 (.call 126 [false, false, false, false] [(.var 0), (.var 1), (.var 6), (.var 7)]),
  .ifS (.cmp .ne (.idx (.var 8) (.int 1)) (.slc (.idx (.var 5) (.int 1)) none (some (.bi .len [(.idx (.var 8) (.int 1))]))))
    [.ret (.bl false)]
    [],
  .ifS (.cmp .ne (.idx (.var 8) (.int 0)) (.str [119, 97, 110, 116, 105, 110, 103]))
    [.ret (.cmp .eq (.var 8) (.var 5))]
    [],
  .ret (.cmp .inn (.idx (.call 127 [false, false] [(.idx (.var 0) (.int 2)), (.idx (.var 8) (.int 2))]) (.int 0)) (.fz (.lst [(.str [99, 104, 111, 111, 115, 101]), (.str [97, 110, 121])])))], .fn⟩
def F129b0 : List St := [.set 4 (.call 111 [false, false] [(.idx (.var 1) (.int 0)), (.slc (.var 2) (some (.var 3)) (some (.bin .add (.var 3) (.int 3))))]),
  .set 5 (.call 112 [false] [(.bin .add (.slc (.var 2) (some (.var 3)) none) (.slc (.var 2) none (some (.var 3))))]),
  .set 6 (.call 113 [false] [(.slc (.var 2) (some (.bin .mul (.int 2) (.var 3))) (some (.bin .add (.bin .mul (.int 2) (.var 3)) (.int 6))))]),
  .ifS (.not (.call 128 [false, false, false, false, false] [(.var 1), (.var 4), (.var 5), (.var 6), (.idx (.var 2) (.bin .add (.var 3) (.int 3)))]))
    [.ret (.bl false)]
    [],
  .set 7 (.bin .add (.fz (.rep (.var 6) (.int 60))) (.fz (.rep (.fz (.lst [(.tup [(.int 1), (.int 1)])])) (.int 300)))),
  .ifS (.cmp .eq (.idx (.call 126 [false, false, false, false] [(.var 1), (.var 4), (.fz (.rep (.var 5) (.int 60))), (.var 7)]) (.int 0)) (.str [119, 97, 110, 116, 105, 110, 103]))
    [.ret (.bl false)]
    []]
/-- law -/
def F129 : Fn := ⟨1, 8, [.set 1 (.call 109 [false] [(.var 0)]),
  .set 2 (.bin .add (.slc (.var 0) (some (.int 40)) (some (.int 63))) (.fz (.lst [(.int 3), (.int 11), (.int 8), (.int 30), (.int 17), (.int 2), (.int 40), (.int 9)]))),
  .forS [3] false (.rng [(.int 5)]) F129b0,
  .ret (.bl true)], .fn⟩
def PG : Prog := fun i => match i with
  | 2 => some F2
  | 3 => some F3
  | 4 => some F4
  | 5 => some F5
  | 7 => some F7
  | 10 => some F10
  | 11 => some F11
  | 12 => some F12
  | 13 => some F13
  | 14 => some F14
  | 16 => some F16
  | 19 => some F19
  | 20 => some F20
  | 21 => some F21
  | 22 => some F22
  | 23 => some F23
  | 24 => some F24
  | 25 => some F25
  | 26 => some F26
  | 29 => some F29
  | 30 => some F30
  | 31 => some F31
  | 32 => some F32
  | 35 => some F35
  | 36 => some F36
  | 37 => some F37
  | 38 => some F38
  | 39 => some F39
  | 47 => some F47
  | 48 => some F48
  | 52 => some F52
  | 53 => some F53
  | 54 => some F54
  | 55 => some F55
  | 56 => some F56
  | 59 => some F59
  | 60 => some F60
  | 61 => some F61
  | 62 => some F62
  | 63 => some F63
  | 64 => some F64
  | 65 => some F65
  | 66 => some F66
  | 67 => some F67
  | 68 => some F68
  | 102 => some F102
  | 103 => some F103
  | 104 => some F104
  | 105 => some F105
  | 106 => some F106
  | 107 => some F107
  | 108 => some F108
  | 109 => some F109
  | 110 => some F110
  | 111 => some F111
  | 112 => some F112
  | 113 => some F113
  | 114 => some F114
  | 115 => some F115
  | 116 => some F116
  | 117 => some F117
  | 118 => some F118
  | 119 => some F119
  | 120 => some F120
  | 121 => some F121
  | 122 => some F122
  | 123 => some F123
  | 124 => some F124
  | 125 => some F125
  | 126 => some F126
  | 127 => some F127
  | 128 => some F128
  | 129 => some F129
  | _ => none
end NK
set_option Elab.async false
set_option linter.all false
set_option autoImplicit false
set_option maxRecDepth 100000
namespace NK
open PySem L2
theorem gcd_fmod (a b : Int) : Int.gcd b (a.fmod b) = Int.gcd a b := by
  rw [Int.fmod_def, Int.gcd_comm a b]
  have : a - b * a.fdiv b = a + b * (-(a.fdiv b)) := by rw [Int.mul_neg]; omega
  rw [this]
  exact Int.gcd_add_mul_left_right _ _ _ 
theorem fmod_lt (a : Int) {b : Int} (h : b ≠ 0) : (a.fmod b).natAbs < b.natAbs := by
  rcases Int.lt_or_gt_of_ne h with h | h
  · have e : a.fmod b = -((-a).fmod (-b)) := by
      rw [Int.fmod_def, Int.fmod_def, Int.neg_fdiv_neg]
      have : -b * a.fdiv b = -(b * a.fdiv b) := Int.neg_mul _ _
      omega
    have h1 := Int.fmod_nonneg_of_pos (-a) (b := -b) (by omega)
    have h2 := Int.fmod_lt_of_pos (-a) (b := -b) (by omega)
    omega
  · have h1 := Int.fmod_nonneg_of_pos a h
    have h2 := Int.fmod_lt_of_pos a h
    omega
section
variable (C : Calls) (st : Sto)
theorem wh_common : ∀ (n : Nat) (a b : Int), 0 ≤ a → 0 ≤ b → b.toNat ≤ n → WH C (.cmp .gt (.var 1) (.int 0)) F2b0 [some (.dat (.int a)), some (.dat (.int b))] st = some (.nx [some (.dat (.int (Int.gcd a b))), some (.dat (.int 0))] st) := by
  intro n
  induction n with
  | zero =>
    intro a b ha hb hn
    have : b = 0 := by omega
    subst this
    rw [WH, whV_f _ _ (st' := st) (by simp)]
    simp
    omega
  | succ n ih =>
    intro a b ha hb hn
    by_cases h : b = 0
    · subst h
      rw [WH, whV_f _ _ (st' := st) (by simp)]
      simp
      omega
    · have hb' : 0 < b := by omega
      rw [WH, whV_t _ _ (st' := st) (e := [some (.dat (.int b)), some (.dat (.int (a.fmod b)))]) (s := st) (by simp [hb']) (by simp [F2b0, h])]
      have := ih b (a.fmod b) hb (Int.fmod_nonneg_of_pos a hb') (by have := Int.fmod_lt_of_pos a hb'; omega)
      rw [WH, gcd_fmod] at this
      exact this
theorem wh_common2 : ∀ (n : Nat) (a b : Int), b.natAbs ≤ n → ∃ g : Int, g.natAbs = Int.gcd a b ∧ WH C (.cmp .ne (.var 1) (.int 0)) F4b0 [some (.dat (.int a)), some (.dat (.int b))] st = some (.nx [some (.dat (.int g)), some (.dat (.int 0))] st) := by
  intro n
  induction n with
  | zero =>
    intro a b hn
    have : b = 0 := by omega
    subst this
    exact ⟨a, by simp, whV_f _ _ (st' := st) (by simp)⟩
  | succ n ih =>
    intro a b hn
    by_cases h : b = 0
    · subst h
      exact ⟨a, by simp, whV_f _ _ (st' := st) (by simp)⟩
    · obtain ⟨g, h1, h2⟩ := ih b (a.fmod b) (by have := fmod_lt a h; omega)
      refine ⟨g, by rw [h1, gcd_fmod], ?_⟩
      rw [WH, whV_t _ _ (st' := st) (e := [some (.dat (.int b)), some (.dat (.int (a.fmod b)))]) (s := st) (by simp [h]) (by simp [F4b0, h])]
      exact h2
end
theorem natAbs_gcd (a b : Int) : (Int.gcd (a.natAbs : Int) (b.natAbs : Int)) = Int.gcd a b := rfl
theorem c_common (d : Nat) (a b : Int) : call PG (d + 1) 2 [.dat (.int a), .dat (.int b)] [] = some (.dat (.int (Int.gcd a b)), []) := by
  have h := wh_common (call PG d) [] (b.natAbs : Int).toNat a.natAbs b.natAbs (by omega) (by omega) (Nat.le_refl _)
  rw [natAbs_gcd] at h
  rw [call_go F2 rfl rfl]
  simp [F2, startE, h]
theorem c_lawcommon (d : Nat) (a b : Int) : call PG (d + 1) 4 [.dat (.int a), .dat (.int b)] [] = some (.dat (.int (Int.gcd a b)), []) := by
  obtain ⟨g, hg, h⟩ := wh_common2 (call PG d) [] b.natAbs a b (Nat.le_refl _)
  rw [call_go F4 rfl rfl]
  simp [F4, startE, h, hg]
/-- a fraction's share -/
def share (t b : Int) : Int := if b < 0 then -(Int.gcd t b : Int) else Int.gcd t b
theorem c_made (d : Nat) (t b : Int) (hb : b ≠ 0) (hs : Bd 9000 (share t b)) : call PG (d + 2) 3 [.dat (.int t), .dat (.int b)] [] = some (.dat (.tup [.int (t.fdiv (share t b)), .int (b.fdiv (share t b))]), []) := by
  have hc := c_common d t b
  have h0 : share t b ≠ 0 := by
    unfold share
    have : (Int.gcd t b) ≠ 0 := fun h => hb (Int.gcd_eq_zero_iff.mp h).2
    split <;> omega
  have hk := okDiv_bd h0 hs
  rw [call_go F3 rfl rfl]
  unfold share at *
  by_cases h : b < 0
  · rw [if_pos h] at hk ⊢
    simp [F3, F3i0, startE, hc, h, hk]
  · rw [if_neg h] at hk ⊢
    simp [F3, F3i0, startE, hc, h, hk]
theorem c_isfrac (d : Nat) (a b : Int) : call PG (d + 2) 5 [.dat (.tup [.int a, .int b])] [] = some (.dat (.bl (decide (0 < b) && decide (Int.gcd a b = 1))), []) := by
  have hc := c_lawcommon d a b
  have hw : COMP (call PG (d + 1)) (.var 1) [1] false (some (.and (.isi (.var 1) [.int]) (.not (.isi (.var 1) [.bool])))) [1] [.int a, .int b] [some (.dat (.tup [.int a, .int b])), none] [] = some ([.int a, .int b], []) := by
    simp [COMP, compV, wipeE, evC]
  rw [call_go F5 rfl rfl]
  simp [F5, startE, hc, hw]
  by_cases h : 0 < b <;> simp [h]
  omega
theorem c_less (d : Nat) (a b e f : Int) (h1 : okMul a f = true) (h2 : okMul e b = true) : call PG (d + 1) 7 [.dat (.tup [.int a, .int b]), .dat (.tup [.int e, .int f])] [] = some (.dat (.bl (decide (a * f < e * b))), []) := by
  rw [call_go F7 rfl rfl]
  simp [F7, startE, h1, h2]
theorem share_spec {t b : Int} (hb : b ≠ 0) : ∃ p q, t = share t b * p ∧ b = share t b * q ∧ t.fdiv (share t b) = p ∧ b.fdiv (share t b) = q ∧ 0 < q ∧ Int.gcd p q = 1 ∧ p.natAbs ≤ t.natAbs ∧ q.natAbs ≤ b.natAbs ∧ (share t b).natAbs ≤ b.natAbs := by
  have hg : Int.gcd t b ≠ 0 := fun h => hb (Int.gcd_eq_zero_iff.mp h).2
  have h0 : share t b ≠ 0 := by unfold share; split <;> omega
  have hn : (share t b).natAbs = Int.gcd t b := by unfold share; split <;> omega
  have d1 : share t b ∣ t := by
    have := Int.gcd_dvd_left t b
    unfold share; split
    · exact Int.neg_dvd.mpr this
    · exact this
  have d2 : share t b ∣ b := by
    have := Int.gcd_dvd_right t b
    unfold share; split
    · exact Int.neg_dvd.mpr this
    · exact this
  obtain ⟨p, hp⟩ := d1
  obtain ⟨q, hq⟩ := d2
  have hq0 : q ≠ 0 := fun e => hb (by rw [hq, e, Int.mul_zero])
  have e1 : t.fdiv (share t b) = p := by
    have : (share t b * p).fdiv (share t b) = p := Int.mul_fdiv_cancel_left p h0
    rw [← hp] at this; exact this
  have e2 : b.fdiv (share t b) = q := by
    have : (share t b * q).fdiv (share t b) = q := Int.mul_fdiv_cancel_left q h0
    rw [← hq] at this; exact this
  have hpos : 0 < q := by
    by_cases h : b < 0
    · have hs : share t b < 0 := by unfold share; rw [if_pos h]; omega
      rcases Int.lt_or_gt_of_ne hq0 with h1 | h1
      · have := Int.mul_pos_of_neg_of_neg hs h1
        omega
      · exact h1
    · have hs : 0 < share t b := by unfold share; rw [if_neg h]; omega
      rcases Int.lt_or_gt_of_ne hq0 with h1 | h1
      · have := Int.mul_neg_of_pos_of_neg hs h1
        omega
      · exact h1
  have hgcd : Int.gcd p q = 1 := by
    have h1 : Int.gcd (share t b * p) (share t b * q) = (share t b).natAbs * Int.gcd p q := Int.gcd_mul_left ..
    rw [← hp, ← hq, hn] at h1
    have : Int.gcd t b * 1 = Int.gcd t b * Int.gcd p q := by omega
    exact (Nat.eq_of_mul_eq_mul_left (by omega) this).symm
  have n1 : t.natAbs = (share t b).natAbs * p.natAbs := by rw [← Int.natAbs_mul, ← hp]
  have n2 : b.natAbs = (share t b).natAbs * q.natAbs := by rw [← Int.natAbs_mul, ← hq]
  have sp : 1 ≤ (share t b).natAbs := by omega
  have qp : 1 ≤ q.natAbs := by omega
  refine ⟨p, q, hp, hq, e1, e2, hpos, hgcd, ?_, ?_, ?_⟩
  · rw [n1]; exact Nat.le_mul_of_pos_left _ sp
  · rw [n2]; exact Nat.le_mul_of_pos_left _ sp
  · rw [n2]; exact Nat.le_mul_of_pos_right _ qp
/-- made's value -/
theorem made_is {n m : Nat} (d : Nat) (t b : Int) (hb : b ≠ 0) (ht : Bd n t) (hbd : Bd m b) (hm : m ≤ 9000) : ∃ p q, call PG (d + 2) 3 [.dat (.int t), .dat (.int b)] [] = some (.dat (.tup [.int p, .int q]), []) ∧ p * b = t * q ∧ 0 < q ∧ Int.gcd p q = 1 ∧ Bd n p ∧ Bd m q := by
  obtain ⟨p, q, h1, h2, h3, h4, h5, h6, h7, h8, h9⟩ := share_spec (t := t) hb
  refine ⟨p, q, ?_, ?_, h5, h6, ht.le_of h7, hbd.le_of h8⟩
  · rw [← h3, ← h4]
    exact c_made d t b hb ((hbd.le_of h9).mono hm)
  · have : p * (share t b * q) = share t b * p * q := by rw [Int.mul_left_comm, Int.mul_assoc]
    rw [← h1, ← h2] at this
    exact this
theorem bd_fdiv {n : Nat} {a b : Int} (h : Bd n a) (hb : 0 < b) : Bd n (a.fdiv b) := by
  refine h.le_of ?_
  rw [Int.fdiv_eq_ediv_of_nonneg _ (by omega)]
  exact Int.natAbs_ediv_le_natAbs a b
theorem at_lt {α : Type} {xs : List α} {i : Int} (h0 : 0 ≤ i) (h1 : i < xs.length) : ∃ x, at? xs i = some x ∧ x ∈ xs := by
  obtain ⟨n, rfl⟩ : ∃ n : Nat, i = (n : Int) := ⟨i.toNat, by omega⟩
  have hn : n < xs.length := by omega
  exact ⟨xs[n], by rw [at_nat, List.getElem?_eq_getElem hn], List.getElem_mem hn⟩
/-- equality of pairs of whole numbers -/
@[simp] theorem c_eqP {st : Sto} {a b e f : Int} : cmpV .eq (.dat (.tup [.int a, .int b])) (.dat (.tup [.int e, .int f])) st = some (decide (a = e ∧ b = f)) := by
  simp [cmpV, snap, eqOk, nod, nods, dep, deps, eqD, eqDs]
  by_cases h : a = e <;> by_cases h2 : b = f <;> simp [h, h2]
theorem dvd_of_low {p q b : Int} (h : Int.gcd p q = 1) (hd : q ∣ p * b) : q ∣ b := by
  have h1 : q.natAbs ∣ p.natAbs * b.natAbs := by rw [← Int.natAbs_mul]; exact Int.natAbs_dvd_natAbs.mpr hd
  have h2 : Nat.Coprime q.natAbs p.natAbs := by
    have : Nat.gcd p.natAbs q.natAbs = 1 := h
    rw [Nat.gcd_comm] at this
    exact this
  exact Int.natAbs_dvd_natAbs.mp (h2.dvd_of_dvd_mul_left h1)
theorem frac_unique {p q a b : Int} (hq : 0 < q) (hb : 0 < b) (h1 : Int.gcd p q = 1) (h2 : Int.gcd a b = 1) (h : p * b = a * q) : p = a ∧ q = b := by
  have d1 : q ∣ b := by
    have : q ∣ p * b := ⟨a, by rw [h, Int.mul_comm]⟩
    exact dvd_of_low h1 this
  have d2 : b ∣ q := by
    have : b ∣ a * q := ⟨p, by rw [← h, Int.mul_comm]⟩
    exact dvd_of_low h2 this
  have e : q = b := Int.le_antisymm (Int.le_of_dvd hb d1) (Int.le_of_dvd hq d2)
  subst e
  exact ⟨Int.eq_of_mul_eq_mul_right (by omega) h, rfl⟩
/-- a fraction in lowest terms -/
structure Fr (a b : Int) : Prop where
  pos : 0 < b
  low : Int.gcd a b = 1
theorem c_plus (d : Nat) {n m n' m' : Nat} {a b e f : Int} (ha : Bd n a) (hb : Bd m b) (he : Bd n' e) (hf : Bd m' f) (hb0 : 0 < b) (hf0 : 0 < f) (hm : m + m' ≤ 9000) (hn : n + m' ≤ 1000000) (hn' : n' + m ≤ 1000000) :
    ∃ p q, call PG (d + 3) 13 [.dat (.tup [.int a, .int b]), .dat (.tup [.int e, .int f])] [] = some (.dat (.tup [.int p, .int q]), []) ∧ p * (b * f) = (a * f + e * b) * q ∧ Fr p q ∧ Bd (max (n + m') (n' + m) + 1) p ∧ Bd (m + m') q := by
  have h0 : b * f ≠ 0 := by
    have := Int.mul_pos hb0 hf0
    omega
  have hs := (ha.mul hf).add (he.mul hb)
  obtain ⟨p, q, h1, h2, h3, h4, h5, h6⟩ := made_is (d := d) _ _ h0 hs (hb.mul hf) hm
  refine ⟨p, q, ?_, h2, ⟨h3, h4⟩, h5, h6⟩
  rw [call_go F13 rfl rfl]
  have m1 : okMul a f = true := okMul_bd ha hf (by omega)
  have m2 : okMul e b = true := okMul_bd he hb (by omega)
  have m3 : okMul b f = true := okMul_bd hb hf (by omega)
  simp [F13, startE, m1, m2, m3, h1]
theorem c_minus (d : Nat) {n m n' m' : Nat} {a b e f : Int} (ha : Bd n a) (hb : Bd m b) (he : Bd n' e) (hf : Bd m' f) (hb0 : 0 < b) (hf0 : 0 < f) (hm : m + m' ≤ 9000) (hn : n + m' ≤ 1000000) (hn' : n' + m ≤ 1000000) :
    ∃ p q, call PG (d + 3) 14 [.dat (.tup [.int a, .int b]), .dat (.tup [.int e, .int f])] [] = some (.dat (.tup [.int p, .int q]), []) ∧ p * (b * f) = (a * f - e * b) * q ∧ Fr p q ∧ Bd (max (n + m') (n' + m) + 1) p ∧ Bd (m + m') q := by
  have h0 : b * f ≠ 0 := by
    have := Int.mul_pos hb0 hf0
    omega
  have hs := (ha.mul hf).sub (he.mul hb)
  obtain ⟨p, q, h1, h2, h3, h4, h5, h6⟩ := made_is (d := d) _ _ h0 hs (hb.mul hf) hm
  refine ⟨p, q, ?_, h2, ⟨h3, h4⟩, h5, h6⟩
  rw [call_go F14 rfl rfl]
  have m1 : okMul a f = true := okMul_bd ha hf (by omega)
  have m2 : okMul e b = true := okMul_bd he hb (by omega)
  have m3 : okMul b f = true := okMul_bd hb hf (by omega)
  simp [F14, startE, m1, m2, m3, h1]
theorem c_times (d : Nat) {n m n' m' : Nat} {a b e f : Int} (ha : Bd n a) (hb : Bd m b) (he : Bd n' e) (hf : Bd m' f) (hb0 : 0 < b) (hf0 : 0 < f) (hm : m + m' ≤ 9000) (hn : n + n' ≤ 1000000) :
    ∃ p q, call PG (d + 3) 16 [.dat (.tup [.int a, .int b]), .dat (.tup [.int e, .int f])] [] = some (.dat (.tup [.int p, .int q]), []) ∧ p * (b * f) = (a * e) * q ∧ Fr p q ∧ Bd (n + n') p ∧ Bd (m + m') q := by
  have h0 : b * f ≠ 0 := by
    have := Int.mul_pos hb0 hf0
    omega
  obtain ⟨p, q, h1, h2, h3, h4, h5, h6⟩ := made_is (d := d) _ _ h0 (ha.mul he) (hb.mul hf) hm
  refine ⟨p, q, ?_, h2, ⟨h3, h4⟩, h5, h6⟩
  rw [call_go F16 rfl rfl]
  have m1 : okMul a e = true := okMul_bd ha he (by omega)
  have m3 : okMul b f = true := okMul_bd hb hf (by omega)
  simp [F16, startE, m1, m3, h1]
end NK
set_option Elab.async false
set_option linter.all false
set_option autoImplicit false
set_option maxRecDepth 100000
namespace NK
open PySem L2
@[simp] theorem storeV_ref {st : Sto} {l : Nat} {ds : List D} {i : Int} {d : D} (h : st[l]? = some (.lst ds)) : storeV (.ref l) (.dat (.int i)) d st = (ix ds.length i).map fun j => st.set l (.lst (ds.set j d)) := by
  simp [storeV, h]
@[simp] theorem ix_2_0 : ix 2 0 = some 0 := rfl
@[simp] theorem ix_2_1 : ix 2 1 = some 1 := rfl
/-- a purse: two whole numbers of bounded size -/
structure Pu (a b : Int) : Prop where
  a : Bd 1100000 a
  b : Bd 1100000 b
def pu (a b : Int) : Obj := .lst [.int a, .int b]
@[simp] theorem fl_pu {a b : Int} : flat (pu a b) = true := rfl
theorem c_take (d : Nat) {a b m : Int} (h : Pu a b) (hm : 0 < m) (hb : Bd 9000 m) : ∃ r a' b', call PG (d + 1) 11 [.ref 0, .dat (.int m)] [pu a b] = some (.dat (.int r), [pu a' b']) ∧ Pu a' b' ∧ 0 ≤ r ∧ r < m := by
  have hk : okDiv m = true := okDiv_bd (by omega) hb
  have h0 : m ≠ 0 := by omega
  by_cases ha : a = 0
  · subst ha
    refine ⟨b.fmod m, 0, b.fdiv m, ?_, ⟨h.a, bd_fdiv h.b hm⟩, Int.fmod_nonneg_of_pos b hm, Int.fmod_lt_of_pos b hm⟩
    rw [call_go F11 rfl rfl]
    simp [F11, startE, pu, hk, h0]
  · refine ⟨a.fmod m, a.fdiv m, b, ?_, ⟨bd_fdiv h.a hm, h.b⟩, Int.fmod_nonneg_of_pos a hm, Int.fmod_lt_of_pos a hm⟩
    rw [call_go F11 rfl rfl]
    simp [F11, startE, pu, hk, h0, ha]
@[simp] theorem en_own {ds : List D} : endV 0 (.rt (.ref 0) [.lst ds]) = some (.own (.lst ds), []) := rfl
theorem fmod_bd {n : Nat} {a m : Int} (hm : 0 < m) (hb : Bd n m) : Bd n (a.fmod m) := by
  have h1 := Int.fmod_nonneg_of_pos a hm
  have h2 := Int.fmod_lt_of_pos a hm
  exact hb.le_of (by omega)
theorem c_purse (d : Nat) {c : Int} (h : Bd 1050000 c) : ∃ a b, call PG (d + 1) 10 [.dat (.int c)] [] = some (.own (pu a b), []) ∧ Pu a b := by
  have hb1 : Bd 32 2147483647 := by unfold Bd; decide
  have hb2 : Bd 32 2147483629 := by unfold Bd; decide
  have hb3 : Bd 32 2147483587 := by unfold Bd; decide
  have step := forV_inv (bind := fun d e => bindT [3] false d e) (body := fun e s => evSs (call PG d) F10b0 e s) (fun k env st => st = [] ∧ ∃ n f x, env = [some (.dat (.int c)), some (.dat (.int n)), some (.dat (.int f)), x] ∧ Bd 32 n ∧ Bd (40 * (k + 1)) f)
      (ds := rngL 0 16) (k := 0) (env := [some (.dat (.int c)), some (.dat (.int (c.fmod 2147483647))), some (.dat (.int 1)), none]) (st := []) ⟨rfl, _, _, _, rfl, fmod_bd (by decide) hb1, by unfold Bd; decide⟩
  have hlp : ∃ n f x, FOR (call PG d) [3] false F10b0 (rngL 0 16) [some (.dat (.int c)), some (.dat (.int (c.fmod 2147483647))), some (.dat (.int 1)), none] [] = some (.nx [some (.dat (.int c)), some (.dat (.int n)), some (.dat (.int f)), x] []) ∧ Bd 1100000 f := by
    refine (step ?_).elim fun e h => h.elim fun s h => ?_
    · rintro i dd env st hi ⟨rfl, n, f, x, rfl, hn, hf⟩
      obtain ⟨rfl, hi2⟩ := rngL_get hi
      rw [Int.zero_add]
      rw [Nat.zero_add] at hf ⊢
      have hk : Bd 5 (i : Int) := by unfold Bd; omega
      have h4 : Bd 16 (48271 : Int) := by unfold Bd; decide
      have m1 : okMul n n = true := okMul_bd hn hn
      have m2 : okMul 48271 (i : Int) = true := okMul_bd h4 hk
      have m3 : okMul (48271 * (i : Int)) (i : Int) = true := okMul_bd (h4.mul hk) hk
      have m4 : okMul f 2147483587 = true := okMul_bd hf hb3 (by omega)
      have hn' := fmod_bd (n := 32) (a := n * n + 48271 * (i : Int) * (i : Int) + (i : Int) + 3) (m := 2147483629) (by decide) hb2
      generalize hnn : (n * n + 48271 * (i : Int) * (i : Int) + (i : Int) + 3).fmod 2147483629 = n' at hn'
      have m5 : okMul n' n' = true := okMul_bd hn' hn'
      refine ⟨_, [some (.dat (.int c)), some (.dat (.int n')), some (.dat (.int (f * 2147483587 + (n' * n').fmod 2147483587))), some (.dat (.int i))], [], rfl, ?_, rfl, _, _, _, rfl, hn', ?_⟩
      · simp [F10b0, m1, m2, m3, m4, hnn, m5]
      · refine ((hf.mul hb3).add (fmod_bd (n := 32) (by decide) hb3)).mono ?_
        omega
    · obtain ⟨h1, rfl, n, f, x, rfl, hn, hf⟩ := h
      exact ⟨n, f, x, h1, hf.mono (by rw [rngL_len]; decide)⟩
  obtain ⟨n, f, x, hlp, hf⟩ := hlp
  have hr : rngOk 0 16 = true := by decide
  have h2 : okDiv 2 = true := okDiv_bd (n := 2) (by decide) (by unfold Bd; decide)
  by_cases hc : c.fmod 2 = 0
  · refine ⟨(c.natAbs : Int).fdiv 2, f, ?_, ⟨?_, hf⟩⟩
    · rw [call_go F10 rfl rfl]
      simp [F10, startE, hr, hlp, hc, h2, pu]
    · refine bd_fdiv (n := 1100000) ?_ (by decide)
      have := h.mono (show 1050000 ≤ 1100000 by decide)
      unfold Bd at *
      rw [Int.natAbs_natCast]; exact this
  · refine ⟨0, f, ?_, ⟨by unfold Bd; exact Nat.two_pow_pos _, hf⟩⟩
    rw [call_go F10 rfl rfl]
    simp [F10, startE, hr, hlp, hc, pu]
theorem bd_lit {n : Nat} {i : Int} (h : i.natAbs < 2 ^ n := by decide) : Bd n i := h
theorem fr_div {t b : Int} (hb : 0 < b) : ∃ p q, t.fdiv (Int.gcd t b) = p ∧ b.fdiv (Int.gcd t b) = q ∧ Fr p q ∧ p.natAbs ≤ t.natAbs ∧ q.natAbs ≤ b.natAbs := by
  obtain ⟨p, q, h1, h2, h3, h4, h5, h6, h7, h8, h9⟩ := share_spec (t := t) (b := b) (by omega)
  have e : share t b = Int.gcd t b := by unfold share; rw [if_neg (by omega)]
  rw [e] at h3 h4
  exact ⟨p, q, h3, h4, ⟨h5, h6⟩, h7, h8⟩
theorem c_fraction (d : Nat) {c : Int} (h : Bd 1050000 c) : ∃ p q, call PG (d + 2) 12 [.dat (.int c)] [] = some (.dat (.tup [.int p, .int q]), []) ∧ Fr p q ∧ Bd 140 p ∧ Bd 60 q := by
  obtain ⟨a, b, h1, hp⟩ := c_purse d h
  obtain ⟨t1, a1, b1, e1, hp1, l1, u1⟩ := c_take d (m := 41) hp (by decide) (bd_lit (n := 20) |>.mono (by decide))
  obtain ⟨t2, a2, b2, e2, hp2, l2, u2⟩ := c_take d (m := 4) hp1 (by decide) (bd_lit (n := 20) |>.mono (by decide))
  have hpow : okPow 10 40 = true := okPow_of
  have hpow2 : okPow 10 12 = true := okPow_of
  have mlit : okMul 2 10000000000000000000000000000000000000000 = true := okMul_bd (m := 2) (n := 140) bd_lit bd_lit
  have top : ∃ t a3 b3, Pu a3 b3 ∧ Bd 135 t ∧ evS (call PG (d + 1)) F12i0 [some (.dat (.int c)), some (.ref 0), some (.dat (.int (t1 - 20))), none, none] [pu a1 b1] = some (.nx [some (.dat (.int c)), some (.ref 0), some (.dat (.int t)), none, none] [pu a3 b3]) := by
    by_cases h : t2 = 1
    · obtain ⟨t3, a3, b3, e3, hp3, l3, u3⟩ := c_take d (m := 20000000000000000000000000000000000000001) hp2 (by decide) (bd_lit (n := 140) |>.mono (by decide))
      refine ⟨t3 - 10000000000000000000000000000000000000000, a3, b3, hp3, ?_, ?_⟩
      · refine Bd.of_le (b := 10000000000000000000000000000000000000000) ?_ (by decide)
        omega
      · simp [F12i0, e2, h, hpow, mlit, e3]
    · refine ⟨t1 - 20, a2, b2, hp2, ?_, ?_⟩
      · refine Bd.of_le (b := 40) ?_ (by decide)
        omega
      · simp [F12i0, e2, h]
  obtain ⟨t, a3, b3, hp3, ht, htop⟩ := top
  obtain ⟨t4, a4, b4, e4, hp4, l4, u4⟩ := c_take d (m := 6) hp3 (by decide) (bd_lit (n := 20) |>.mono (by decide))
  have pick : ∃ m : Int, at? [D.int 1, .int 1, .int 2, .int 3, .int 1000, .int 1000000000000] t4 = some (.int m) ∧ 0 < m ∧ m ≤ 1000000000000 := by
    have : t4 = 0 ∨ t4 = 1 ∨ t4 = 2 ∨ t4 = 3 ∨ t4 = 4 ∨ t4 = 5 := by omega
    rcases this with e | e | e | e | e | e <;> subst e <;> exact ⟨_, rfl, by decide, by decide⟩
  obtain ⟨m, hm, m0, m1⟩ := pick
  have low : ∃ m' a5 b5, Pu a5 b5 ∧ 0 < m' ∧ m' ≤ 1000000000000 ∧ evS (call PG (d + 1)) F12i1 [some (.dat (.int c)), some (.ref 0), some (.dat (.int t)), some (.dat (.int m)), none] [pu a4 b4] = some (.nx [some (.dat (.int c)), some (.ref 0), some (.dat (.int t)), some (.dat (.int m')), none] [pu a5 b5]) := by
    by_cases h : 3 < m
    · obtain ⟨t5, a5, b5, e5, hp5, l5, u5⟩ := c_take d (m := m) hp4 m0 (by refine (Bd.of_le (b := 1000000000000) (n := 60) (by omega) (by decide)).mono (by decide))
      refine ⟨1 + t5, a5, b5, hp5, by omega, by omega, ?_⟩
      simp [F12i1, e5, h]
    · exact ⟨m, a4, b4, hp4, m0, m1, by simp [F12i1, h]⟩
  obtain ⟨m', a5, b5, hp5, m0', m1', hlow⟩ := low
  have hbm : Bd 60 m' := Bd.of_le (b := 1000000000000) (by omega) (by decide)
  obtain ⟨p, q, f1, f2, f3, f4, f5⟩ := fr_div (t := t) m0'
  have hg0 : ((Int.gcd t m' : Nat) : Int) ≠ 0 := by
    have : Int.gcd t m' ≠ 0 := fun h => by have := (Int.gcd_eq_zero_iff.mp h).2; omega
    omega
  have hk : okDiv ((Int.gcd t m' : Nat) : Int) = true := okDiv_bd (n := 60) hg0 (hbm.le_of (by
    have h1 : Int.gcd t m' ∣ m'.natAbs := Int.gcd_dvd_natAbs_right ..
    rw [Int.natAbs_natCast]
    exact Nat.le_of_dvd (by omega) h1))
  refine ⟨p, q, ?_, f3, (ht.mono (by decide)).le_of f4, hbm.le_of f5⟩
  rw [call_go F12 rfl rfl]
  have hc := c_lawcommon d t m'
  simp [F12, startE, h1, e1, htop, e4, hpow2, hm, hlow, hc, hk, f1, f2]
end NK
set_option Elab.async false
set_option linter.all false
set_option autoImplicit false
set_option maxRecDepth 100000
namespace NK
open PySem L2
/-! names, terms, fractions, points as data -/
def nmD (c : Nat) : D := .str [c]
def tmD (t : Nat × Int) : D := .tup [nmD t.1, .int t.2]
def frD (f : Int × Int) : D := .tup [.int f.1, .int f.2]
/-- a point at hand: what it has for a name -/
structure PtV (pv : Val) (look : Nat → Int × Int) (ns : List Nat) : Prop where
  kind : (∃ ks ds, pv = .bor (.dK ks ds)) ∨ ∃ ks ds, pv = .dat (.dK ks ds)
  get : ∀ c ∈ ns, ∀ st, idxV pv (.dat (nmD c)) st = some (frD (look c))
  has : ∀ c ∈ ns, ∀ st, cmpV .notin (.dat (nmD c)) pv st = some false
  fr : ∀ c ∈ ns, Fr (look c).1 (look c).2 ∧ Bd 140 (look c).1 ∧ Bd 60 (look c).2
/-- terms over names -/
structure TmOk (ts : List (Nat × Int)) (ns : List Nat) : Prop where
  mem : ∀ t ∈ ts, t.1 ∈ ns
  bd : ∀ t ∈ ts, Bd 80 t.2
/-- what terms add up to, top and bottom -/
def acc (look : Nat → Int × Int) : List (Nat × Int) → Int → Int → Int × Int
  | [], t, b => (t, b)
  | (c, w) :: r, t, b => acc look r (t * (look c).2 + w * (look c).1 * b) (b * (look c).2)
theorem acc_low {pv : Val} {look : Nat → Int × Int} {ns : List Nat} (hp : PtV pv look ns) : ∀ {ts : List (Nat × Int)} {t b : Int}, TmOk ts ns → 0 < b → 0 < (acc look ts t b).2
  | [], t, b, _, h => h
  | (c, w) :: r, t, b, h, hb => by
    have hf := (hp.fr c (h.mem _ List.mem_cons_self)).1.pos
    exact acc_low hp (ts := r) ⟨fun t ht => h.mem t (List.mem_cons_of_mem _ ht), fun t ht => h.bd t (List.mem_cons_of_mem _ ht)⟩ (Int.mul_pos hb hf)
theorem acc_bd {pv : Val} {look : Nat → Int × Int} {ns : List Nat} (hp : PtV pv look ns) : ∀ {ts : List (Nat × Int)} {t b : Int} {n m : Nat}, TmOk ts ns → Bd n t → Bd m b → Bd (n + (m + 300 * ts.length) * ts.length) (acc look ts t b).1 ∧ Bd (m + 60 * ts.length) (acc look ts t b).2
  | [], t, b, n, m, _, h1, h2 => by
    refine ⟨h1.mono (by simp), h2⟩
  | (c, w) :: r, t, b, n, m, h, h1, h2 => by
    obtain ⟨_, f1, f2⟩ := hp.fr c (h.mem _ List.mem_cons_self)
    have hw : Bd 80 w := h.bd _ List.mem_cons_self
    have e1 := (h1.mul f2).add ((hw.mul f1).mul h2)
    have e2 := h2.mul f2
    obtain ⟨g1, g2⟩ := acc_bd hp (ts := r) ⟨fun t ht => h.mem t (List.mem_cons_of_mem _ ht), fun t ht => h.bd t (List.mem_cons_of_mem _ ht)⟩ e1 e2
    refine ⟨g1.mono ?_, g2.mono ?_⟩
    · simp only [List.length_cons]
      have a1 : (m + 60 + 300 * r.length) * r.length ≤ (m + 300 * (r.length + 1)) * r.length := Nat.mul_le_mul_right _ (by omega)
      have a2 : (m + 300 * (r.length + 1)) * (r.length + 1) = (m + 300 * (r.length + 1)) * r.length + (m + 300 * (r.length + 1)) := Nat.mul_succ _ _
      omega
    · simp only [List.length_cons]; omega
section
variable {pv : Val} {look : Nat → Int × Int} {ns : List Nat}
theorem for_worth (C : Calls) (hp : PtV pv look ns) (x0 x4 x5 x6 : Option Val) : ∀ {ts : List (Nat × Int)} {t b : Int} {n m : Nat} {x7 x8 x9 x10 : Option Val}, TmOk ts ns → Bd n t → Bd m b → ts.length ≤ 10 → n ≤ 10000 + 10000 * (10 - ts.length) → m ≤ 1000 + 60 * (10 - ts.length) →
    ∃ y7 y8 y9 y10, FOR C [7, 8] true F26b0 (ts.map tmD) [x0, some pv, some (.dat (.int t)), some (.dat (.int b)), x4, x5, x6, x7, x8, x9, x10] [] = some (.nx [x0, some pv, some (.dat (.int (acc look ts t b).1)), some (.dat (.int (acc look ts t b).2)), x4, x5, x6, y7, y8, y9, y10] [])
  | [], t, b, n, m, x7, x8, x9, x10, _, _, _, _, _, _ => ⟨x7, x8, x9, x10, rfl⟩
  | (c, w) :: r, t, b, n, m, x7, x8, x9, x10, h, h1, h2, hl, hn, hm => by
    obtain ⟨_, f1, f2⟩ := hp.fr c (h.mem _ List.mem_cons_self)
    have hw : Bd 80 w := h.bd _ List.mem_cons_self
    have e1 := (h1.mul f2).add ((hw.mul f1).mul h2)
    have e2 := h2.mul f2
    simp only [List.length_cons] at hl hn hm
    obtain ⟨y7, y8, y9, y10, ih⟩ := for_worth C hp x0 x4 x5 x6 (ts := r) (x7 := some (.dat (nmD c))) (x8 := some (.dat (.int w))) (x9 := some (.dat (.int (look c).1))) (x10 := some (.dat (.int (look c).2))) ⟨fun t ht => h.mem t (List.mem_cons_of_mem _ ht), fun t ht => h.bd t (List.mem_cons_of_mem _ ht)⟩ e1 e2 (by omega) (by omega) (by omega)
    refine ⟨y7, y8, y9, y10, ?_⟩
    have m1 : okMul t (look c).2 = true := okMul_bd h1 f2 (by omega)
    have m2 : okMul w (look c).1 = true := okMul_bd hw f1
    have m3 : okMul (w * (look c).1) b = true := okMul_bd (hw.mul f1) h2 (by omega)
    have m4 : okMul b (look c).2 = true := okMul_bd h2 f2 (by omega)
    have hg := hp.get c (h.mem _ List.mem_cons_self) []
    rw [acc, ← ih]
    simp [FOR, forV, tmD, F26b0, hg, frD, m1, m2, m3, m4]
theorem for_must (C : Calls) (hp : PtV pv look ns) (x0 : Option Val) : ∀ {ts : List (Nat × Int)} {x2 x3 : Option Val}, TmOk ts ns → ∃ y2 y3, FOR C [2, 3] true F25b0 (ts.map tmD) [x0, some pv, x2, x3] [] = some (.nx [x0, some pv, y2, y3] [])
  | [], x2, x3, _ => ⟨x2, x3, rfl⟩
  | (c, w) :: r, x2, x3, h => by
    obtain ⟨y2, y3, ih⟩ := for_must C hp x0 (ts := r) (x2 := some (.dat (nmD c))) (x3 := some (.dat (.int w))) ⟨fun t ht => h.mem t (List.mem_cons_of_mem _ ht), fun t ht => h.bd t (List.mem_cons_of_mem _ ht)⟩
    refine ⟨y2, y3, ?_⟩
    have hg := hp.has c (h.mem _ List.mem_cons_self) []
    rw [← ih]
    simp [FOR, forV, tmD, F25b0, hg]
theorem c_must (d : Nat) (hp : PtV pv look ns) {ts : List (Nat × Int)} (h : TmOk ts ns) : call PG (d + 1) 25 [.dat (.tup (ts.map tmD)), pv] [] = some (.dat .non, []) := by
  obtain ⟨y2, y3, hf⟩ := for_must (call PG d) hp (some (.dat (.tup (ts.map tmD)))) (ts := ts) (x2 := none) (x3 := none) h
  rw [call_go F25 rfl rfl]
  simp [F25, startE, hf]
/-- worth: the quotient, in lowest terms -/
theorem c_worth (d : Nat) (hp : PtV pv look ns) {ts : List (Nat × Int)} {w by_ : Int} (h : TmOk ts ns) (hl : ts.length ≤ 10) (hw : Bd 200 w) (hb : Bd 100 by_) (hb0 : 0 < by_) :
    ∃ p q, call PG (d + 3) 26 [.dat (.tup [.tup (ts.map tmD), .int w, .int by_]), pv] [] = some (.dat (.tup [.int p, .int q]), []) ∧ p * ((acc look ts w 1).2 * by_) = (acc look ts w 1).1 * q ∧ Fr p q ∧ Bd 40000 p ∧ Bd 800 q := by
  have one : Bd 1 1 := bd_lit
  obtain ⟨b1, b2⟩ := acc_bd hp h hw one
  have b1' : Bd 40000 (acc look ts w 1).1 := b1.mono (by
    have : (1 + 300 * ts.length) * ts.length ≤ (1 + 300 * 10) * 10 := Nat.mul_le_mul (by omega) hl
    omega)
  have b2' : Bd 700 (acc look ts w 1).2 := b2.mono (by omega)
  have low := acc_low hp (t := w) (b := 1) h (by decide)
  have h0 : (acc look ts w 1).2 * by_ ≠ 0 := by
    have := Int.mul_pos low hb0
    omega
  obtain ⟨p, q, h1, h2, h3, h4, h5, h6⟩ := made_is (d := d) _ _ h0 b1' (b2'.mul hb) (by decide)
  obtain ⟨y7, y8, y9, y10, hf⟩ := for_worth (call PG (d + 2)) hp (some (.dat (.tup [.tup (ts.map tmD), .int w, .int by_]))) (some (.dat (.tup (ts.map tmD)))) (some (.dat (.int w))) (some (.dat (.int by_))) (ts := ts) (x7 := none) (x8 := none) (x9 := none) (x10 := none) h hw one hl (by omega) (by omega)
  have m1 : okMul (acc look ts w 1).2 by_ = true := okMul_bd b2' hb
  have hm := c_must (d + 1) hp h
  refine ⟨p, q, ?_, h2, ⟨h3, h4⟩, h5, h6.mono (by decide)⟩
  rw [call_go F26 rfl rfl]
  rcases hp.kind with ⟨ks, ds, rfl⟩ | ⟨ks, ds, rfl⟩
  · simp [F26, startE, hm, hf, m1, h1]
  · simp [F26, startE, hm, hf, m1, h1]
end
end NK
set_option Elab.async false
set_option linter.all false
set_option autoImplicit false
set_option maxRecDepth 100000
namespace NK
open PySem L2
/-! what the laws draw: numbers, terms, sums, rows, names, points -/
theorem c_number21 (d : Nat) {a b : Int} (h : Pu a b) : ∃ w a' b', call PG (d + 2) 21 [.ref 0] [pu a b] = some (.dat (.int w), [pu a' b']) ∧ Pu a' b' ∧ Bd 80 w := by
  obtain ⟨r, a1, b1, e1, h1, l1, u1⟩ := c_take d (m := 7) h (by decide) (bd_lit (n := 20) |>.mono (by decide))
  have hpow : okPow 10 19 = true := okPow_of
  have hmul : okMul 2 10000000000000000000 = true := okMul_bd (m := 2) (n := 80) bd_lit bd_lit
  by_cases hr : r < 6
  · obtain ⟨r2, a2, b2, e2, h2, l2, u2⟩ := c_take d (m := 7) h1 (by decide) (bd_lit (n := 20) |>.mono (by decide))
    have pick : ∃ m : Int, at? [D.int 0, .int 1, .int (-1), .int 2, .int (-3), .int 5, .int 1] r2 = some (.int m) ∧ Bd 80 m := by
      have : r2 = 0 ∨ r2 = 1 ∨ r2 = 2 ∨ r2 = 3 ∨ r2 = 4 ∨ r2 = 5 ∨ r2 = 6 := by omega
      rcases this with e | e | e | e | e | e | e <;> subst e <;> exact ⟨_, rfl, bd_lit⟩
    obtain ⟨m, hm, hb⟩ := pick
    refine ⟨m, a2, b2, ?_, h2, hb⟩
    rw [call_go F21 rfl rfl]
    simp [F21, startE, e1, hr, e2, hm]
  · obtain ⟨r2, a2, b2, e2, h2, l2, u2⟩ := c_take d (m := 20000000000000000001) h1 (by decide) (bd_lit (n := 80) |>.mono (by decide))
    refine ⟨r2 - 10000000000000000000, a2, b2, ?_, h2, ?_⟩
    · rw [call_go F21 rfl rfl]
      simp [F21, startE, e1, hr, hpow, hmul, e2]
    · refine Bd.of_le (b := 10000000000000000000) ?_ (by decide)
      omega
/-- terms drawn from names, in the names' order, no weight nought -/
structure TmDr (ts : List (Nat × Int)) (ns : List Nat) : Prop where
  sub : (ts.map (·.1)).Sublist ns
  bd : ∀ t ∈ ts, Bd 80 t.2
  nz : ∀ t ∈ ts, t.2 ≠ 0
theorem TmDr.ok {ts : List (Nat × Int)} {ns : List Nat} (h : TmDr ts ns) : TmOk ts ns := ⟨fun t ht => h.sub.subset (List.mem_map.mpr ⟨t, ht, rfl⟩), h.bd⟩
theorem TmDr.len {ts : List (Nat × Int)} {ns : List Nat} (h : TmDr ts ns) : ts.length ≤ ns.length := by
  have := h.sub.length_le
  rwa [List.length_map] at this
theorem for_terms (d : Nat) (x0 x1 : Option Val) : ∀ {ns : List Nat} {ts : List (Nat × Int)} {a b : Int} {x3 x4 : Option Val}, Pu a b → ts.length + ns.length ≤ 100 → x0 = some (.ref 0) →
    ∃ us a' b' y3 y4, FOR (call PG (d + 2)) [3] false F22b0 (ns.map nmD) [x0, x1, some (.ref 1), x3, x4] [pu a b, .lst (ts.map tmD)] = some (.nx [x0, x1, some (.ref 1), y3, y4] [pu a' b', .lst ((ts ++ us).map tmD)]) ∧ Pu a' b' ∧ TmDr us ns
  | [], ts, a, b, x3, x4, h, hl, h0 => ⟨[], a, b, x3, x4, by simp [FOR, forV], h, ⟨List.Sublist.slnil, fun _ h => (nomatch h), fun _ h => (nomatch h)⟩⟩
  | c :: ns, ts, a, b, x3, x4, h, hl, h0 => by
    obtain ⟨w, a1, b1, e1, h1, hb⟩ := c_number21 d h
    simp only [List.length_cons] at hl
    by_cases hw : w = 0
    · obtain ⟨us, a2, b2, y3, y4, ih, hp, hd⟩ := for_terms d x0 x1 (ns := ns) (ts := ts) (x3 := some (.dat (nmD c))) (x4 := some (.dat (.int w))) h1 (by omega) h0
      refine ⟨us, a2, b2, y3, y4, ?_, hp, ⟨hd.sub.cons c, hd.bd, hd.nz⟩⟩
      rw [← ih]
      subst h0 hw
      simp [FOR, forV, F22b0, F22i0, e1]
    · obtain ⟨us, a2, b2, y3, y4, ih, hp, hd⟩ := for_terms d x0 x1 (ns := ns) (ts := ts ++ [(c, w)]) (x3 := some (.dat (nmD c))) (x4 := some (.dat (.int w))) h1 (by simp; omega) h0
      refine ⟨(c, w) :: us, a2, b2, y3, y4, ?_, hp, ⟨hd.sub.cons₂ c, fun t ht => ?_, fun t ht => ?_⟩⟩
      · rw [show ts ++ (c, w) :: us = ts ++ [(c, w)] ++ us by simp, ← ih]
        subst h0
        have hl2 : ts.length < LIM := by unfold LIM; omega
        simp [FOR, forV, F22b0, F22i0, e1, hw, hl2, tmD]
      · rcases List.mem_cons.mp ht with e | ht
        · subst e; exact hb
        · exact hd.bd t ht
      · rcases List.mem_cons.mp ht with e | ht
        · subst e; exact hw
        · exact hd.nz t ht
theorem c_terms (d : Nat) {ns : List Nat} {a b : Int} (h : Pu a b) (hl : ns.length ≤ 10) : ∃ ts a' b', call PG (d + 3) 22 [.ref 0, .dat (.tup (ns.map nmD))] [pu a b] = some (.dat (.tup (ts.map tmD)), [pu a' b']) ∧ Pu a' b' ∧ TmDr ts ns := by
  obtain ⟨us, a', b', y3, y4, hf, hp, hd⟩ := for_terms d (some (.ref 0)) (some (.dat (.tup (ns.map nmD)))) (ns := ns) (ts := []) (x3 := none) (x4 := none) h (by simpa using by omega) rfl
  refine ⟨us, a', b', ?_, hp, hd⟩
  rw [call_go F22 rfl rfl]
  simp only [List.map_nil, List.nil_append] at hf
  simp [F22, startE, hf]
end NK
set_option Elab.async false
set_option linter.all false
set_option autoImplicit false
set_option maxRecDepth 100000
namespace NK
open PySem L2
theorem c_sum (d : Nat) {ns : List Nat} {a b : Int} (h : Pu a b) (hl : ns.length ≤ 10) : ∃ ts w m a' b', call PG (d + 4) 23 [.ref 0, .dat (.tup (ns.map nmD))] [pu a b] = some (.dat (.tup [.tup (ts.map tmD), .int w, .int m]), [pu a' b']) ∧ Pu a' b' ∧ TmDr ts ns ∧ Bd 80 w ∧ 0 < m ∧ m ≤ 10000000000000000000 := by
  obtain ⟨r, a1, b1, e1, h1, l1, u1⟩ := c_take (d + 2) (m := 6) h (by decide) (bd_lit (n := 20) |>.mono (by decide))
  have pick : ∃ m : Int, at? [D.int 1, .int 1, .int 2, .int 1, .int 3, .int 0] r = some (.int m) ∧ 0 ≤ m ∧ m ≤ 3 := by
    have : r = 0 ∨ r = 1 ∨ r = 2 ∨ r = 3 ∨ r = 4 ∨ r = 5 := by omega
    rcases this with e | e | e | e | e | e <;> subst e <;> exact ⟨_, rfl, by decide, by decide⟩
  obtain ⟨m0, hm, g0, g1⟩ := pick
  have hpow : okPow 10 19 = true := okPow_of
  have sec : ∃ m a2 b2, Pu a2 b2 ∧ 0 < m ∧ m ≤ 10000000000000000000 ∧ evS (call PG (d + 3)) F23i0 [some (.ref 0), some (.dat (.tup (ns.map nmD))), some (.dat (.int m0)), none] [pu a1 b1] = some (.nx [some (.ref 0), some (.dat (.tup (ns.map nmD))), some (.dat (.int m)), none] [pu a2 b2]) := by
    by_cases hz : m0 = 0
    · obtain ⟨r2, a2, b2, e2, h2, l2, u2⟩ := c_take (d + 2) (m := 10000000000000000000) h1 (by decide) (bd_lit (n := 80) |>.mono (by decide))
      exact ⟨1 + r2, a2, b2, h2, by omega, by omega, by simp [F23i0, hz, hpow, e2]⟩
    · exact ⟨m0, a1, b1, h1, by omega, by omega, by simp [F23i0, hz]⟩
  obtain ⟨m, a2, b2, h2, k0, k1, hs⟩ := sec
  obtain ⟨ts, a3, b3, e3, h3, hts⟩ := c_terms d (ns := ns) h2 hl
  obtain ⟨w, a4, b4, e4, h4, hw⟩ := c_number21 (d + 1) h3
  refine ⟨ts, w, m, a4, b4, ?_, h4, hts, hw, k0, k1⟩
  rw [call_go F23 rfl rfl]
  simp [F23, startE, e1, hm, hs, e3, e4]
/-! names -/
def letters : W := [97, 98, 99, 100, 101, 102, 103, 104, 105, 106, 107, 108, 109, 110, 111, 112, 113, 114, 115, 116, 117, 118, 119, 120, 121, 122]
theorem at_letters {n : Nat} (h : n < 26) : at? letters (n : Int) = some (97 + n) := by
  rw [at_nat, show letters = (List.range 26).map (97 + ·) by decide, List.getElem?_map, List.getElem?_range h]
  rfl
def namesW (m n : Nat) : List W := sortW ((List.range n).map fun k => [97 + (m + 7 * k) % 26])
def namesL (m n : Nat) : List Nat := (namesW m n).map fun w => w.headD 0
/-- a plan's names -/
structure NmOk (ns : List Nat) : Prop where
  asc : ns.Pairwise (· < ·)
  len : ns.length ≤ 3
  pos : 1 ≤ ns.length
  let_ : ∀ c ∈ ns, 97 ≤ c ∧ c ≤ 122
def namesB (m n : Nat) : Bool := decide (namesW m n = (namesL m n).map fun c => [c]) && decide ((namesL m n).Pairwise (· < ·)) && decide ((namesL m n).length = n) && ((namesL m n).all fun c => decide (97 ≤ c) && decide (c ≤ 122)) && !(([113, 106, 120, 122] : List Nat).filter fun c => !(namesL m n).contains c).isEmpty
theorem namesB_all : ((List.range 26).all fun m => ([1, 2, 3] : List Nat).all fun n => namesB m n) = true := by decide +kernel
theorem namesL_ok {m n : Nat} (hm : m < 26) (hn : n < 4) (h1 : 1 ≤ n) : namesW m n = (namesL m n).map (fun c => [c]) ∧ NmOk (namesL m n) ∧ (namesL m n).length = n ∧ (([113, 106, 120, 122] : List Nat).filter fun c => !(namesL m n).contains c) ≠ [] := by
  have h := List.all_eq_true.mp (List.all_eq_true.mp namesB_all m (List.mem_range.mpr hm)) n (by simp; omega)
  unfold namesB at h
  simp only [Bool.and_eq_true, decide_eq_true_eq, List.all_eq_true, Bool.not_eq_true', List.isEmpty_eq_false_iff] at h
  obtain ⟨⟨⟨⟨h1', h2⟩, h3⟩, h4⟩, h5⟩ := h
  exact ⟨h1', ⟨h2, by omega, by omega, h4⟩, h3, h5⟩
theorem textsD_map : ∀ ws : List W, textsD (ws.map .str) = some ws
  | [] => rfl
  | w :: ws => by simp [textsD, textsD_map ws]
theorem bi_sortedX {v : Val} {st : Sto} {ds : List D} {ws : List W} (h : soL st v = some ds) (hw : textsD ds = some ws) (hl : ws.length < 64) : biV .sorted [v] st = some (.lst ((sortW ws).map .str)) := by
  simp only [biV, h, ob_some, hw, if_pos hl]
@[simp] theorem bi_sorted {st : Sto} {ws : List W} : biV .sorted [.dat (.lst (ws.map .str))] st = if ws.length < 64 then some (.lst ((sortW ws).map .str)) else none := by
  by_cases h : ws.length < 64
  · rw [if_pos h]
    exact bi_sortedX (ds := ws.map .str) (by simp only [soL, aL_lst]) (textsD_map ws) h
  · rw [if_neg h]
    have e : ascD (ws.map D.str) = false := by
      unfold ascD
      rw [List.length_map, decide_eq_false h]; rfl
    simp only [biV, soL, aL_lst, ob_some, textsD_map, if_neg h, e, Bool.false_eq_true, if_false]
theorem c_names (d : Nat) {c : Int} (h : Bd 1050000 c) : ∃ m n, m < 26 ∧ n < 4 ∧ 1 ≤ n ∧ call PG (d + 1) 19 [.dat (.int c)] [] = some (.dat (.tup ((namesL m n).map nmD)), []) := by
  have h26 := Int.fmod_nonneg_of_pos c (b := 26) (by decide)
  have h26' := Int.fmod_lt_of_pos c (b := 26) (by decide)
  have h3 := Int.fmod_nonneg_of_pos (c.fdiv 26) (b := 3) (by decide)
  have h3' := Int.fmod_lt_of_pos (c.fdiv 26) (b := 3) (by decide)
  obtain ⟨m, hm⟩ : ∃ m : Nat, c.fmod 26 = m := ⟨(c.fmod 26).toNat, by omega⟩
  obtain ⟨n, hn⟩ : ∃ n : Nat, (c.fdiv 26).fmod 3 = n := ⟨((c.fdiv 26).fmod 3).toNat, by omega⟩
  have hm' : m < 26 := by omega
  have ix : ∀ k : Nat, k < 3 → at? letters (((m : Int) + 7 * (k : Int)).fmod 26) = some (97 + (m + 7 * k) % 26) := fun k hk => by
    have e : ((m : Int) + 7 * (k : Int)).fmod 26 = (((m + 7 * k) % 26 : Nat) : Int) := by
      rw [Int.fmod_eq_emod_of_nonneg _ (by decide)]
      omega
    rw [e, at_letters (Nat.mod_lt _ (by decide))]
  have hd : okDiv 26 = true := okDiv_bd (n := 5) (by decide) bd_lit
  have m0 : ∀ k : Nat, k < 3 → okMul 7 (k : Int) = true := fun k hk => okMul_bd (m := 3) (n := 3) bd_lit (by unfold Bd; omega)
  refine ⟨m, n + 1, hm', by omega, by omega, ?_⟩
  have hw := (namesL_ok hm' (by omega : n + 1 < 4) (by omega)).1
  have hlen : ∀ x, x ≤ 3 → ((List.range x).map fun k => [97 + (m + 7 * k) % 26]).length < 64 := fun x hx => by simp; omega
  have hC : ∀ env : Env, env = [some (.dat (.int c)), some (.dat (.str letters)), none] → COMP (call PG d) (.idx (.var 1) (.bin .mod (.bin .add (.bin .mod (.var 0) (.int 26)) (.bin .mul (.int 7) (.var 2))) (.int 26))) [2] false none [2] (rngL 0 (1 + (n : Int))) env [] = some (((List.range (n + 1)).map fun k => [97 + (m + 7 * k) % 26]).map D.str, []) := fun env he => by
    subst he
    have hL : letters.length ≤ LIM := by show 26 ≤ 16777216; omega
    have i0 := ix 0 (by decide)
    have i1 := ix 1 (by decide)
    have i2 := ix 2 (by decide)
    have k0 := m0 0 (by decide)
    have k1 := m0 1 (by decide)
    have k2 := m0 2 (by decide)
    simp only [Int.natCast_zero, Int.natCast_one, Int.mul_zero, Int.add_zero, Int.mul_one, Int.reduceMul, Int.cast_ofNat_Int] at i0 i1 i2 k0 k1 k2
    have : n = 0 ∨ n = 1 ∨ n = 2 := by omega
    rcases this with e | e | e <;> subst e
    · simp [COMP, compV, wipeE, evC, rngL, List.range, List.range.loop, hm, idxV, hL, i0, k0]
    · simp [COMP, compV, wipeE, evC, rngL, List.range, List.range.loop, hm, idxV, hL, i0, k0, i1, k1]
    · simp [COMP, compV, wipeE, evC, rngL, List.range, List.range.loop, hm, idxV, hL, i0, k0, i1, k1, i2, k2]
  rw [call_go F19 rfl rfl]
  have hr : rngOk 0 (1 + (n : Int)) = true := rngOk_small (by decide) (by omega) (by omega) (by decide)
  have hC' := hC _ rfl
  unfold letters at hC'
  have hs : sortW ((List.range (n + 1)).map fun k => [97 + (m + 7 * k) % 26]) = (namesL m (n + 1)).map (fun c => [c]) := hw
  have hnm : (namesL m (n + 1)).map nmD = ((namesL m (n + 1)).map (fun c => [c])).map D.str := by rw [List.map_map]; rfl
  have h64 : n + 1 < 64 := by omega
  simp [F19, startE, hd]
  rw [hn]
  simp [hr, hC', h64, hs, hnm, -List.map_map]
end NK
set_option Elab.async false
set_option linter.all false
set_option autoImplicit false
set_option maxRecDepth 100000
namespace NK
open PySem L2
theorem c_cell0 (d : Nat) {ns : List Int} (hb : ∀ z ∈ ns, PySem.Builtin.Int.intBits z ≤ 1048576) (k : Nat) : ∃ c, call PG (d + 1) 20 [.dat (.scr ns), .dat (.int k)] [] = some (.dat (.int c), []) ∧ Bd 1050000 c := by
  by_cases h : k < ns.length
  · refine ⟨ns[k], ?_, (bd_intBits (hb _ (List.getElem_mem h))).mono (by decide)⟩
    rw [call_go F20 rfl rfl]
    have e : at? ns (k : Int) = some ns[k] := by rw [at_nat, List.getElem?_eq_getElem h]
    have h' : (k : Int) < ns.length := by omega
    simp [F20, startE, h, h', e]
  · refine ⟨0, ?_, by unfold Bd; exact Nat.two_pow_pos _⟩
    rw [call_go F20 rfl rfl]
    have h' : ¬ (k : Int) < ns.length := by omega
    simp [F20, startE, h, h']
/-! points as dicts -/
def ptK (ns : List Nat) : List K1 := ns.map fun c => .inr [c]
def ptD (fs : List (Int × Int)) : List D := fs.map frD
def lookP : List Nat → List (Int × Int) → Nat → Int × Int
  | n :: ns, f :: fs, c => if n = c then f else lookP ns fs c
  | _, _, _ => (0, 1)
theorem ptK_mem {ns : List Nat} {c : Nat} : (.inr [c] : K1) ∈ ptK ns ↔ c ∈ ns := by
  unfold ptK
  rw [List.mem_map]
  constructor
  · rintro ⟨a, ha, e⟩
    cases e; exact ha
  · exact fun h => ⟨c, h, rfl⟩
theorem ptK_nodup {ns : List Nat} (h : ns.Nodup) : (ptK ns).Nodup := by
  unfold ptK List.Nodup
  rw [List.pairwise_map]
  exact List.Pairwise.imp (fun hne e => hne (by cases e; rfl)) h
theorem dlook_pt : ∀ {ns : List Nat} {fs : List (Int × Int)} {c : Nat}, fs.length = ns.length → c ∈ ns → dlook (ptK ns) (ptD fs) (.inr [c]) = some (frD (lookP ns fs c)) ∧ lookP ns fs c ∈ fs
  | [], _, _, _, h => by simp at h
  | n :: ns, [], _, h, _ => by simp at h
  | n :: ns, f :: fs, c, hl, hc => by
    by_cases e : n = c
    · subst e
      simp [ptK, ptD, dlook, lookP]
    · have hc' : c ∈ ns := (List.mem_cons.mp hc).resolve_left (fun z => e z.symm)
      obtain ⟨h1, h2⟩ := dlook_pt (ns := ns) (fs := fs) (by simpa using hl) hc'
      have e2 : ¬ (Sum.inr [n] : K1) = .inr [c] := by simpa using e
      refine ⟨?_, ?_⟩
      · show (if (Sum.inr [n] : K1) = .inr [c] then _ else dlook (ptK ns) (ptD fs) (.inr [c])) = _
        rw [if_neg e2, h1, lookP, if_neg e]
      · rw [lookP, if_neg e]
        exact List.mem_cons_of_mem _ h2
structure FsOk' (fs : List (Int × Int)) : Prop where
  fr : ∀ f ∈ fs, Fr f.1 f.2 ∧ Bd 140 f.1 ∧ Bd 60 f.2
theorem ptV_of {ns : List Nat} {fs : List (Int × Int)} {pv : Val} (hl : fs.length = ns.length) (h : FsOk' fs) (hp : pv = .bor (.dK (ptK ns) (ptD fs)) ∨ pv = .dat (.dK (ptK ns) (ptD fs))) : PtV pv (lookP ns fs) ns := by
  refine ⟨?_, fun c hc st => ?_, fun c hc st => ?_, fun c hc => h.fr _ (dlook_pt hl hc).2⟩
  · rcases hp with rfl | rfl
    · exact .inl ⟨_, _, rfl⟩
    · exact .inr ⟨_, _, rfl⟩
  · have e := (dlook_pt hl hc).1
    rcases hp with rfl | rfl
    · exact e
    · exact e
  · have e := (dlook_pt hl hc).1
    rcases hp with rfl | rfl
    · simp [cmpV, cmpV.inV, snap, nmD, toK, e]
    · simp [cmpV, cmpV.inV, snap, nmD, toK, e]
theorem storeV_dK {st : Sto} {l : Nat} {ks : List K1} {ds : List D} {k d : D} (h : st[l]? = some (.dK ks ds)) : storeV (.ref l) (.dat k) d st = (toK k).bind fun k => if ks.length < LIM then some (st.set l (.dK (dputK ks ds k d).1 (dputK ks ds k d).2)) else none := by
  unfold storeV
  simp only [h]
theorem for_point (d : Nat) {cs : List Int} (hcs : ∀ c ∈ cs, Bd 1050000 c) (x0 x1 : Option Val) {ns : List Nat} (h0 : x0 = some (.dat (.lst (cs.map .int)))) (h1 : x1 = some (.dat (.tup (ns.map nmD)))) (hn : ns.Nodup) (hlen : ns.length ≤ cs.length) (h10 : ns.length ≤ 10) :
    ∃ fs y3, FOR (call PG (d + 2)) [3] false F24b0 (rngL 0 ns.length) [x0, x1, some (.ref 0), none] [.dK [] []] = some (.nx [x0, x1, some (.ref 0), y3] [.dK (ptK ns) (ptD fs)]) ∧ fs.length = ns.length ∧ FsOk' fs := by
  have step := forV_inv (bind := fun d e => bindT [3] false d e) (body := fun e s => evSs (call PG (d + 2)) F24b0 e s)
    (fun k env st => ∃ fs x3, env = [x0, x1, some (.ref 0), x3] ∧ st = [.dK (ptK (ns.take k)) (ptD fs)] ∧ fs.length = k ∧ k ≤ ns.length ∧ FsOk' fs)
    (ds := rngL 0 ns.length) (k := 0) (env := [x0, x1, some (.ref 0), none]) (st := [.dK [] []]) ⟨[], none, rfl, by simp [ptK, ptD], rfl, by omega, ⟨fun _ h => (nomatch h)⟩⟩
  refine (step ?_).elim fun e h => h.elim fun s h => ?_
  · rintro i dd env st hi ⟨fs, x3, rfl, rfl, hf, hk, hfs⟩
    obtain ⟨rfl, hi2⟩ := rngL_get hi
    rw [Int.zero_add]
    rw [Nat.zero_add] at hf hk ⊢
    have hin : i < ns.length := by omega
    have hic : i < cs.length := by omega
    obtain ⟨p, q, f1, f2, f3, f4⟩ := c_fraction d (hcs _ (List.getElem_mem hic))
    have e0 : at? (cs.map D.int) (i : Int) = some (.int cs[i]) := by rw [at_nat, List.getElem?_map, List.getElem?_eq_getElem hic]; rfl
    have e1 : at? (ns.map nmD) (i : Int) = some (nmD ns[i]) := by rw [at_nat, List.getElem?_map, List.getElem?_eq_getElem hin]; rfl
    have hnot : (.inr [ns[i]] : K1) ∉ ptK (ns.take i) := fun hm => by
      have := ptK_mem.mp hm
      obtain ⟨j, hj, e⟩ := List.mem_iff_getElem.mp this
      rw [List.getElem_take] at e
      rw [List.length_take] at hj
      have := (List.getElem_inj hn).mp e
      omega
    have hput : dputK (ptK (ns.take i)) (ptD fs) (.inr [ns[i]]) (frD (p, q)) = (ptK (ns.take (i + 1)), ptD (fs ++ [(p, q)])) := by
      unfold dputK
      rw [if_neg hnot, List.take_succ_eq_append_getElem hin]
      unfold ptK ptD
      rw [List.map_append, List.map_append]
      rfl
    refine ⟨_, [x0, x1, some (.ref 0), some (.dat (.int i))], [.dK (ptK (ns.take (i + 1))) (ptD (fs ++ [(p, q)]))], rfl, ?_, fs ++ [(p, q)], _, rfl, rfl, by simp [hf], by omega, ⟨fun f hf' => ?_⟩⟩
    · subst h0 h1
      have hlim : (ptK (ns.take i)).length < LIM := by
        unfold ptK LIM
        rw [List.length_map, List.length_take]
        omega
      have hst := storeV_dK (st := [.dK (ptK (ns.take i)) (ptD fs)]) (l := 0) (k := nmD ns[i]) (d := frD (p, q)) rfl
      simp only [nmD, frD] at hst e1 hput
      simp [F24b0, e0, e1, f1, hst, toK, hlim, hput]
    · rcases List.mem_append.mp hf' with h | h
      · exact hfs.fr f h
      · rw [List.mem_singleton] at h
        subst h
        exact ⟨f2, f3, f4⟩
  · obtain ⟨g1, fs, x3, rfl, rfl, g2, g3, g4⟩ := h
    have el : 0 + (rngL 0 (ns.length : Int)).length = ns.length := by rw [rngL_len]; omega
    rw [el] at g1 g2 g3
    refine ⟨fs, x3, ?_, g2, g4⟩
    rw [List.take_length] at g1
    exact g1
@[simp] theorem en_ownK {ks : List K1} {ds : List D} : endV 0 (.rt (.ref 0) [.dK ks ds]) = some (.own (.dK ks ds), []) := rfl
theorem c_point (d : Nat) {cs : List Int} (hcs : ∀ c ∈ cs, Bd 1050000 c) {ns : List Nat} (hn : ns.Nodup) (hlen : ns.length ≤ cs.length) (h10 : ns.length ≤ 10) :
    ∃ fs, call PG (d + 3) 24 [.dat (.lst (cs.map .int)), .dat (.tup (ns.map nmD))] [] = some (.own (.dK (ptK ns) (ptD fs)), []) ∧ fs.length = ns.length ∧ FsOk' fs := by
  obtain ⟨fs, y3, hf, h1, h2⟩ := for_point d hcs (some (.dat (.lst (cs.map .int)))) (some (.dat (.tup (ns.map nmD)))) rfl rfl hn hlen h10
  refine ⟨fs, ?_, h1, h2⟩
  have hr : rngOk 0 (ns.length : Int) = true := rngOk_small (by decide) (by omega) (by omega) (by decide)
  rw [call_go F24 rfl rfl]
  simp [F24, startE, hr, hf]
theorem fr_frac (d : Nat) {p q : Int} (h : Fr p q) : call PG (d + 2) 5 [.dat (.tup [.int p, .int q])] [] = some (.dat (.bl true), []) := by
  rw [c_isfrac]
  simp [h.pos, h.low]
theorem eqD_fr (f : Int × Int) : eqD (frD f) (frD f) = true := by simp [frD, eqD, eqDs]
theorem eqKs_self : ∀ {ks js : List K1} {ds es : List D}, (js ++ ks).Nodup → js.length = es.length → (∀ d ∈ ds, eqD d d = true) → eqKs ks ds (js ++ ks) (es ++ ds) = true
  | [], _, _, _, _, _, _ => by simp [eqKs]
  | _ :: _, _, [], _, _, _, _ => by simp [eqKs]
  | k :: ks, js, d :: ds, es, hn, hl, h => by
    have look : ∀ {js : List K1} {es : List D}, js.length = es.length → k ∉ js → dlook (js ++ k :: ks) (es ++ d :: ds) k = some d := by
      intro js
      induction js with
      | nil => intro es hl _; cases es with
        | nil => simp [dlook]
        | cons _ _ => simp at hl
      | cons j js ih => intro es hl hm; cases es with
        | nil => simp at hl
        | cons e es =>
          have : ¬ j = k := fun z => hm (by rw [z]; exact List.mem_cons_self)
          simp only [List.cons_append, dlook, if_neg this]
          exact ih (by simpa using hl) fun z => hm (List.mem_cons_of_mem _ z)
    have hk : k ∉ js := fun hm => (List.nodup_append.mp hn).2.2 k hm k List.mem_cons_self rfl
    have ih := eqKs_self (ks := ks) (js := js ++ [k]) (ds := ds) (es := es ++ [d]) (by rw [List.append_assoc]; exact hn) (by simp [hl]) fun x hx => h x (List.mem_cons_of_mem _ hx)
    rw [List.append_assoc, List.append_assoc] at ih
    simp only [eqKs, look hl hk, h d List.mem_cons_self, Bool.true_and]
    exact ih
theorem nods_pt : ∀ fs : List (Int × Int), nods (ptD fs) = true ∧ deps (ptD fs) ≤ 1
  | [] => ⟨rfl, by simp [ptD, deps]⟩
  | f :: fs => by
    obtain ⟨a, b⟩ := nods_pt fs
    have e : ptD (f :: fs) = frD f :: ptD fs := rfl
    rw [e]
    refine ⟨by simp [nods, frD, nod, a], ?_⟩
    simp only [deps, frD, dep, deps]
    omega
theorem pt_same {ns : List Nat} {fs : List (Int × Int)} (hn : ns.Nodup) (hl : fs.length = ns.length) : eqOk (.dK (ptK ns) (ptD fs)) (.dK (ptK ns) (ptD fs)) = true ∧ eqD (.dK (ptK ns) (ptD fs)) (.dK (ptK ns) (ptD fs)) = true := by
  obtain ⟨a, b⟩ := nods_pt fs
  have e1 : (ptK ns).length = (ptD fs).length := by simp [ptK, ptD, hl]
  refine ⟨?_, ?_⟩
  · unfold eqOk
    rw [Bool.or_eq_true]
    right
    simp only [eqOkK, a, e1, Bool.and_true, Bool.true_and, Bool.and_eq_true, decide_eq_true_eq, true_and]
    omega
  · simp only [eqD, beq_self_eq_true, Bool.true_and]
    have := eqKs_self (ks := ptK ns) (js := []) (ds := ptD fs) (es := []) (by simpa using ptK_nodup hn) rfl (fun d hd => by
      obtain ⟨f, _, rfl⟩ := List.mem_map.mp hd
      exact eqD_fr f)
    simpa using this
end NK
set_option Elab.async false
set_option linter.all false
set_option autoImplicit false
set_option maxRecDepth 100000
namespace NK
open PySem L2
/-! data are themselves -/
mutual
theorem eqD_self : ∀ d : D, nod d = true → eqD d d = true
  | .non, _ => by simp [eqD]
  | .bl _, _ => by simp [eqD]
  | .int _, _ => by simp [eqD]
  | .str _, _ => by simp [eqD]
  | .tup ds, h => by simp only [eqD]; exact eqDs_self ds (by simpa [nod] using h)
  | .lst ds, h => by simp only [eqD]; exact eqDs_self ds (by simpa [nod] using h)
  | .dK _ _, h => by simp [nod] at h
  | .dT _ _, h => by simp [nod] at h
  | .scr ns, _ => by simp [eqD]
theorem eqDs_self : ∀ ds : List D, nods ds = true → eqDs ds ds = true
  | [], _ => by simp [eqDs]
  | d :: ds, h => by
    have h' : nod d = true ∧ nods ds = true := by simpa [nods] using h
    simp [eqDs, eqD_self d h'.1, eqDs_self ds h'.2]
end
theorem c_ne_self {st : Sto} {d : D} (h : nod d = true) (hd : dep d ≤ 190) : cmpV .ne (.dat d) (.dat d) st = some false := by
  have e : eqOk d d = true := by unfold eqOk; simp [h, hd]
  rw [c_ne_of rfl rfl e, eqD_self d h]; rfl
theorem c_eq_self {st : Sto} {d : D} (h : nod d = true) (hd : dep d ≤ 190) : cmpV .eq (.dat d) (.dat d) st = some true := by
  have e : eqOk d d = true := by unfold eqOk; simp [h, hd]
  rw [c_eq_of rfl rfl e, eqD_self d h]
/-! rows -/
def lst5 : W := [108, 101, 97, 115, 116]
def mor4 : W := [109, 111, 114, 101]
def wd (m : Bool) : W := if m then mor4 else lst5
def tmsD (ts : List (Nat × Int)) : D := .tup (ts.map tmD)
def rowD (m : Bool) (ts : List (Nat × Int)) (b : Int) : D := .tup [.str (wd m), tmsD ts, .int b]
theorem tms_nod : ∀ ts : List (Nat × Int), nods (ts.map tmD) = true ∧ deps (ts.map tmD) ≤ 1
  | [] => ⟨rfl, by simp [deps]⟩
  | t :: ts => by
    obtain ⟨a, b⟩ := tms_nod ts
    rw [List.map_cons]
    refine ⟨by simp [nods, tmD, nmD, nod, a], ?_⟩
    simp only [deps, tmD, nmD, dep, deps]
    omega
theorem row_nod (m : Bool) (ts : List (Nat × Int)) (b : Int) : nod (rowD m ts b) = true ∧ dep (rowD m ts b) ≤ 190 := by
  obtain ⟨h1, h2⟩ := tms_nod ts
  refine ⟨by simp [rowD, tmsD, nod, nods, h1], ?_⟩
  simp only [rowD, tmsD, dep, deps]
  omega
theorem c_row (d : Nat) {ns : List Nat} {a b : Int} (h : Pu a b) (hl : ns.length ≤ 10) : ∃ m ts w a' b', call PG (d + 4) 29 [.ref 0, .dat (.tup (ns.map nmD))] [pu a b] = some (.dat (rowD m ts w), [pu a' b']) ∧ Pu a' b' ∧ TmDr ts ns ∧ Bd 80 w := by
  obtain ⟨r, a1, b1, e1, h1, l1, u1⟩ := c_take (d + 2) (m := 2) h (by decide) (bd_lit (n := 20) |>.mono (by decide))
  obtain ⟨ts, a2, b2, e2, h2, hts⟩ := c_terms d (ns := ns) h1 hl
  obtain ⟨w, a3, b3, e3, h3, hw⟩ := c_number21 (d + 1) h2
  have : r = 0 ∨ r = 1 := by omega
  rcases this with e | e <;> subst e
  · refine ⟨false, ts, w, a3, b3, ?_, h3, hts, hw⟩
    rw [call_go F29 rfl rfl]
    simp [F29, startE, e1, e2, e3, rowD, tmsD, wd, lst5]
  · refine ⟨true, ts, w, a3, b3, ?_, h3, hts, hw⟩
    rw [call_go F29 rfl rfl]
    simp [F29, startE, e1, e2, e3, rowD, tmsD, wd, mor4]
section
variable {pv : Val} {look : Nat → Int × Int} {ns : List Nat}
theorem for_total (C : Calls) (hp : PtV pv look ns) (x0 : Option Val) : ∀ {ts : List (Nat × Int)} {t b : Int} {n m : Nat} {x4 x5 x6 x7 : Option Val}, TmOk ts ns → Bd n t → Bd m b → ts.length ≤ 10 → n ≤ 10000 + 10000 * (10 - ts.length) → m ≤ 1000 + 60 * (10 - ts.length) →
    ∃ y4 y5 y6 y7, FOR C [4, 5] true F30b0 (ts.map tmD) [x0, some pv, some (.dat (.int t)), some (.dat (.int b)), x4, x5, x6, x7] [] = some (.nx [x0, some pv, some (.dat (.int (acc look ts t b).1)), some (.dat (.int (acc look ts t b).2)), y4, y5, y6, y7] [])
  | [], t, b, n, m, x4, x5, x6, x7, _, _, _, _, _, _ => ⟨x4, x5, x6, x7, rfl⟩
  | (c, w) :: r, t, b, n, m, x4, x5, x6, x7, h, h1, h2, hl, hn, hm => by
    obtain ⟨_, f1, f2⟩ := hp.fr c (h.mem _ List.mem_cons_self)
    have hw : Bd 80 w := h.bd _ List.mem_cons_self
    have e1 := (h1.mul f2).add ((hw.mul f1).mul h2)
    have e2 := h2.mul f2
    simp only [List.length_cons] at hl hn hm
    obtain ⟨y5, y6, y7, y8, ih⟩ := for_total C hp x0 (ts := r) (x4 := some (.dat (nmD c))) (x5 := some (.dat (.int w))) (x6 := some (.dat (.int (look c).1))) (x7 := some (.dat (.int (look c).2))) ⟨fun t ht => h.mem t (List.mem_cons_of_mem _ ht), fun t ht => h.bd t (List.mem_cons_of_mem _ ht)⟩ e1 e2 (by omega) (by omega) (by omega)
    refine ⟨y5, y6, y7, y8, ?_⟩
    have m1 : okMul t (look c).2 = true := okMul_bd h1 f2 (by omega)
    have m2 : okMul w (look c).1 = true := okMul_bd hw f1
    have m3 : okMul (w * (look c).1) b = true := okMul_bd (hw.mul f1) h2 (by omega)
    have m4 : okMul b (look c).2 = true := okMul_bd h2 f2 (by omega)
    have hg := hp.get c (h.mem _ List.mem_cons_self) []
    rw [acc, ← ih]
    simp [FOR, forV, tmD, F30b0, hg, frD, m1, m2, m3, m4]
theorem c_total30 (d : Nat) (hp : PtV pv look ns) {ts : List (Nat × Int)} (h : TmOk ts ns) (hl : ts.length ≤ 10) : call PG (d + 1) 30 [.dat (tmsD ts), pv] [] = some (.dat (.lst [.int (acc look ts 0 1).1, .int (acc look ts 0 1).2]), []) := by
  obtain ⟨y5, y6, y7, y8, hf⟩ := for_total (call PG d) hp (some (.dat (tmsD ts))) (ts := ts) (t := 0) (b := 1) (n := 1) (m := 1) (x4 := none) (x5 := none) (x6 := none) (x7 := none) h bd_lit bd_lit hl (by omega) (by omega)
  unfold tmsD at *
  rw [call_go F30 rfl rfl]
  simp [F30, startE, hf]
theorem acc_bds (hp : PtV pv look ns) {ts : List (Nat × Int)} (h : TmOk ts ns) (hl : ts.length ≤ 10) : Bd 40000 (acc look ts 0 1).1 ∧ Bd 700 (acc look ts 0 1).2 ∧ 0 < (acc look ts 0 1).2 := by
  have one : Bd 1 1 := bd_lit
  have nil : Bd 1 0 := bd_lit
  obtain ⟨b1, b2⟩ := acc_bd hp h nil one
  refine ⟨b1.mono (by
    have : (1 + 300 * ts.length) * ts.length ≤ (1 + 300 * 10) * 10 := Nat.mul_le_mul (by omega) hl
    omega), b2.mono (by omega), acc_low hp h (by decide)⟩
/-- whether a row is so -/
def soB (look : Nat → Int × Int) (m : Bool) (ts : List (Nat × Int)) (b : Int) : Bool := if m then decide (b * (acc look ts 0 1).2 < (acc look ts 0 1).1) else !decide ((acc look ts 0 1).1 < b * (acc look ts 0 1).2)
theorem c_isso (d : Nat) (hp : PtV pv look ns) {m : Bool} {ts : List (Nat × Int)} {b : Int} (h : TmOk ts ns) (hl : ts.length ≤ 10) (hb : Bd 90 b) : call PG (d + 4) 31 [.dat (rowD m ts b), pv] [] = some (.dat (.bl (soB look m ts b)), []) := by
  obtain ⟨p, q, g1, g2, g3, g4, g5⟩ := c_worth d hp h hl (w := 0) (by_ := 1) bd_lit bd_lit (by decide)
  obtain ⟨h1, h2, h3⟩ := acc_bds hp h hl
  rw [Int.mul_one] at g2
  have m1 : okMul b q = true := okMul_bd hb g5
  have m2 : okMul p 1 = true := okMul_bd g4 (n := 1) bd_lit
  have l1 := c_less (d + 2) b 1 p q m1 m2
  have l2 := c_less (d + 2) p q b 1 m2 m1
  have q0 := g3.pos
  have k1 : (b * q < p * 1) ↔ (b * (acc look ts 0 1).2 < (acc look ts 0 1).1) := by
    generalize (acc look ts 0 1).1 = T at *
    generalize (acc look ts 0 1).2 = B at *
    rw [Int.mul_one]
    constructor
    · intro hlt
      have : b * q * B < p * B := Int.mul_lt_mul_of_pos_right hlt h3
      rw [g2] at this
      have e : b * q * B = (b * B) * q := by grind
      rw [e] at this
      exact Int.lt_of_mul_lt_mul_right this (by omega)
    · intro hlt
      have : b * B * q < T * q := Int.mul_lt_mul_of_pos_right hlt q0
      rw [← g2] at this
      have e : b * B * q = (b * q) * B := by grind
      rw [e] at this
      exact Int.lt_of_mul_lt_mul_right this (by omega)
  have k2 : (p * 1 < b * q) ↔ ((acc look ts 0 1).1 < b * (acc look ts 0 1).2) := by
    generalize (acc look ts 0 1).1 = T at *
    generalize (acc look ts 0 1).2 = B at *
    rw [Int.mul_one]
    constructor
    · intro hlt
      have : p * B < b * q * B := Int.mul_lt_mul_of_pos_right hlt h3
      rw [g2] at this
      have e : b * q * B = (b * B) * q := by grind
      rw [e] at this
      exact Int.lt_of_mul_lt_mul_right this (by omega)
    · intro hlt
      have : T * q < b * B * q := Int.mul_lt_mul_of_pos_right hlt q0
      rw [← g2] at this
      have e : b * B * q = (b * q) * B := by grind
      rw [e] at this
      exact Int.lt_of_mul_lt_mul_right this (by omega)
  have L1 : call PG (d + 3) 7 [.dat (.tup [.int b, .int 1]), .dat (.tup [.int p, .int q])] [] = some (.dat (.bl (decide (b * (acc look ts 0 1).2 < (acc look ts 0 1).1))), []) := by
    rw [show d + 3 = d + 2 + 1 from rfl, l1, decide_eq_decide.mpr k1]
  have L2 : call PG (d + 3) 7 [.dat (.tup [.int p, .int q]), .dat (.tup [.int b, .int 1])] [] = some (.dat (.bl (decide ((acc look ts 0 1).1 < b * (acc look ts 0 1).2))), []) := by
    rw [show d + 3 = d + 2 + 1 from rfl, l2, decide_eq_decide.mpr k2]
  clear l1 l2
  unfold rowD tmsD
  rw [call_go F31 rfl rfl]
  rcases hp.kind with ⟨ks, ds, rfl⟩ | ⟨ks, ds, rfl⟩ <;> cases m <;> simp [F31, startE, g1, L1, L2, soB, wd, mor4, lst5]
end
def negT (ts : List (Nat × Int)) : List (Nat × Int) := ts.map fun t => (t.1, -t.2)
def negD : D → D
  | .tup [n, .int w] => .tup [n, .int (-w)]
  | d => d
theorem negD_map (ts : List (Nat × Int)) : (ts.map tmD).map negD = (negT ts).map tmD := by
  unfold negT
  rw [List.map_map, List.map_map]
  rfl
theorem comp_neg (C : Calls) (x0 x1 : Option Val) (ts : List (Nat × Int)) : COMP C (.tup [(.var 2), (.neg (.var 3))]) [2, 3] true none [2, 3] (ts.map tmD) [x0, x1, none, none] [] = some ((negT ts).map tmD, []) := by
  rw [← negD_map]
  refine COMP_map negD fun d hd => ?_
  obtain ⟨t, _, rfl⟩ := List.mem_map.mp hd
  exact ⟨_, rfl, by simp [tmD, nmD, negD, wipeE]⟩
theorem c_contrary (d : Nat) (m : Bool) (ts : List (Nat × Int)) (b : Int) : call PG (d + 1) 32 [.dat (rowD m ts b)] [] = some (.dat (rowD (!m) (negT ts) (-b)), []) := by
  unfold rowD tmsD
  rw [call_go F32 rfl rfl]
  have hc := fun x0 x1 => comp_neg (call PG d) x0 x1 ts
  cases m <;> simp [F32, startE, hc, wd, mor4, lst5]
end NK
set_option Elab.async false
set_option linter.all false
set_option autoImplicit false
set_option maxRecDepth 100000
namespace NK
open PySem L2
theorem cells_ok {ns : List Int} (hl : ns.length ≤ 63) (hb : ∀ z ∈ ns, PySem.Builtin.Int.intBits z ≤ 1048576) {pre post : List Int} (hp : ∀ c ∈ pre, Bd 1050000 c) (hq : ∀ c ∈ post, Bd 1050000 c) {a b : Nat} : ∀ c ∈ pre ++ (ns.take b).drop a ++ post, Bd 1050000 c := by
  intro c hc
  rw [List.mem_append, List.mem_append] at hc
  rcases hc with (hc | hc) | hc
  · exact hp c hc
  · exact (bd_intBits (hb c (List.mem_of_mem_take (List.mem_of_mem_drop hc)))).mono (by decide)
  · exact hq c hc
theorem cut_mid {α : Type} {xs : List α} {a b : Nat} : cutL xs (some (a : Int)) (some (b : Int)) = (xs.take b).drop a := by
  unfold cutL
  rw [sIx_nat, sIx_nat, List.drop_take]
  by_cases h : a ≤ xs.length
  · rw [Nat.min_eq_left h]
    by_cases h2 : b ≤ xs.length
    · rw [Nat.min_eq_left h2]
    · rw [Nat.min_eq_right (by omega), List.take_of_length_le (by rw [List.length_drop]; omega), List.take_of_length_le (by rw [List.length_drop]; omega)]
  · rw [List.drop_eq_nil_of_le (as := xs) (i := a) (by omega), List.drop_eq_nil_of_le (by omega)]
    simp
end NK
set_option Elab.async false
set_option linter.all false
set_option autoImplicit false
set_option maxRecDepth 100000
namespace NK
open PySem L2
theorem FOR_nil {C : Calls} {tg : List Nat} {tup : Bool} {b : List St} {env : Env} {st : Sto} : FOR C tg tup b [] env st = some (.nx env st) := rfl
theorem FOR_cons {C : Calls} {tg : List Nat} {tup : Bool} {b : List St} {d : D} {ds : List D} {env : Env} {st : Sto} : FOR C tg tup b (d :: ds) env st = (bindT tg tup d env).bind fun e1 => (evSs C b e1 st).bind fun o => match o with
    | .nx e s => FOR C tg tup b ds e s
    | .rt v s => some (.rt v s) := rfl
/-! dicts of whole numbers -/
def dlI {κ : Type} [DecidableEq κ] : List κ → List Int → κ → Option Int
  | k :: ks, v :: vs, j => if k = j then some v else dlI ks vs j
  | _, _, _ => none
def dsI {κ : Type} [DecidableEq κ] : List κ → List Int → κ → Int → List Int
  | k :: ks, v :: vs, j, e => (if k = j then e else v) :: dsI ks vs j e
  | _, _, _, _ => []
abbrev KI := List K1 × List Int
def dpI {κ : Type} [DecidableEq κ] (s : List κ × List Int) (j : κ) (x : Int) : List κ × List Int := if j ∈ s.1 then (s.1, dsI s.1 s.2 j x) else (s.1 ++ [j], s.2 ++ [x])
def gtI (s : KI) (j : K1) : Int := (dlI s.1 s.2 j).getD 0
def dO (s : KI) : Obj := .dK s.1 (s.2.map .int)
def dD (s : KI) : D := .dK s.1 (s.2.map .int)
theorem dlook_int {κ : Type} [DecidableEq κ] : ∀ {ks : List κ} {vs : List Int} {j : κ}, dlook ks (vs.map .int) j = (dlI ks vs j).map .int
  | [], vs, j => by cases vs <;> rfl
  | k :: ks, [], j => rfl
  | k :: ks, v :: vs, j => by
    simp only [List.map_cons, dlook, dlI]
    split
    · rfl
    · exact dlook_int
theorem dset_int {κ : Type} [DecidableEq κ] : ∀ {ks : List κ} {vs : List Int} {j : κ} {x : Int}, dsetK ks (vs.map .int) j (.int x) = (dsI ks vs j x).map .int
  | [], vs, j, x => by cases vs <;> rfl
  | k :: ks, [], j, x => rfl
  | k :: ks, v :: vs, j, x => by
    simp only [List.map_cons, dsetK, dsI, dset_int]
    split <;> rfl
theorem dput_int {s : KI} {j : K1} {x : Int} : dputK s.1 (s.2.map .int) j (.int x) = ((dpI s j x).1, (dpI s j x).2.map .int) := by
  unfold dputK dpI
  split
  · rw [dset_int]
  · simp
theorem dpI_len {s : KI} {j : K1} {x : Int} (h : s.2.length = s.1.length) : (dpI s j x).2.length = (dpI s j x).1.length ∧ (dpI s j x).1.length ≤ s.1.length + 1 := by
  have hd : ∀ {ks : List K1} {vs : List Int}, vs.length = ks.length → (dsI ks vs j x).length = ks.length := by
    intro ks
    induction ks with
    | nil => intro vs h; cases vs <;> rfl
    | cons k ks ih =>
      intro vs h
      cases vs with
      | nil => simp at h
      | cons v vs => simp only [dsI, List.length_cons]; rw [ih (by simpa using h)]
  unfold dpI
  split
  · exact ⟨hd h, Nat.le_succ _⟩
  · simp [h]
theorem dlI_some {ks : List K1} : ∀ {vs : List Int}, vs.length = ks.length → ∀ k ∈ ks, ∃ v, dlI ks vs k = some v := by
  induction ks with
  | nil => intro vs _ k hk; simp at hk
  | cons a ks ih =>
    intro vs h k hk
    cases vs with
    | nil => simp at h
    | cons v vs =>
      simp only [dlI]
      split
      · exact ⟨v, rfl⟩
      · rename_i hn
        rcases List.mem_cons.mp hk with e | e
        · exact absurd e.symm hn
        · exact ih (by simpa using h) k e
theorem dlI_mem {κ : Type} [DecidableEq κ] : ∀ {ks : List κ} {vs : List Int} {k : κ} {v : Int}, dlI ks vs k = some v → v ∈ vs
  | [], vs, k, v, h => by cases vs <;> simp [dlI] at h
  | _ :: _, [], k, v, h => by simp [dlI] at h
  | a :: ks, w :: vs, k, v, h => by
    simp only [dlI] at h
    split at h
    · cases h; exact List.mem_cons_self
    · exact List.mem_cons_of_mem _ (dlI_mem h)
theorem dsI_mem {κ : Type} [DecidableEq κ] : ∀ {ks : List κ} {vs : List Int} {k : κ} {x v : Int}, v ∈ dsI ks vs k x → v = x ∨ v ∈ vs
  | [], vs, k, x, v, h => by cases vs <;> simp [dsI] at h
  | _ :: _, [], k, x, v, h => by simp [dsI] at h
  | a :: ks, w :: vs, k, x, v, h => by
    simp only [dsI, List.mem_cons] at h
    rcases h with h | h
    · split at h
      · exact .inl h
      · exact .inr (h ▸ List.mem_cons_self)
    · exact (dsI_mem h).imp id (List.mem_cons_of_mem _)
/-- all values lie below b -/
def Vb (b : Nat) (s : KI) : Prop := ∀ v ∈ s.2, v.natAbs ≤ b
theorem Vb.gt {b : Nat} {s : KI} (h : Vb b s) (j : K1) : (gtI s j).natAbs ≤ b := by
  unfold gtI
  cases e : dlI s.1 s.2 j with
  | none => exact Nat.zero_le _
  | some v => exact h v (dlI_mem e)
theorem Vb.dp {b : Nat} {s : KI} (h : Vb b s) {j : K1} {x : Int} (hx : x.natAbs ≤ b) : Vb b (dpI s j x) := by
  unfold dpI
  split
  · intro v hv
    rcases dsI_mem hv with e | e
    · rw [e]; exact hx
    · exact h v e
  · intro v hv
    rcases List.mem_append.mp hv with e | e
    · exact h v e
    · rw [List.mem_singleton.mp e]; exact hx
theorem Vb.mono {b c : Nat} {s : KI} (h : Vb b s) (hc : b ≤ c) : Vb c s := fun v hv => Nat.le_trans (h v hv) hc
/-- terms added to what is there, m times each -/
def tA (m : Int) (s : KI) (ts : List (Nat × Int)) : KI := ts.foldl (fun s t => dpI s (.inr [t.1]) (gtI s (.inr [t.1]) + m * t.2)) s
/-- .. taken off -/
def tZ (m : Int) (s : KI) (ts : List (Nat × Int)) : KI := ts.foldl (fun s t => dpI s (.inr [t.1]) (gtI s (.inr [t.1]) - m * t.2)) s
abbrev Row := Bool × List (Nat × Int) × Int
def rD (r : Row) : D := rowD r.1 r.2.1 r.2.2
/-- what a row may be -/
structure RwOk (b : Nat) (r : Row) : Prop where
  len : r.2.1.length ≤ 40
  ws : ∀ t ∈ r.2.1, t.2.natAbs ≤ 2 ^ b
  bd : r.2.2.natAbs ≤ 2 ^ b
theorem ok_mul {a b : Nat} {x y : Int} (hx : x.natAbs ≤ 2 ^ a) (hy : y.natAbs ≤ 2 ^ b) (ha : a ≤ 1000000 := by decide) (hb : b ≤ 1000000 := by decide) : okMul x y = true :=
  okMul_bd (i := x) (j := y) (m := a + 1) (n := b + 1) (show x.natAbs < 2 ^ (a + 1) from Nat.lt_of_le_of_lt hx (Nat.pow_lt_pow_right (by decide) (by omega))) (show y.natAbs < 2 ^ (b + 1) from Nat.lt_of_le_of_lt hy (Nat.pow_lt_pow_right (by decide) (by omega))) (by omega)
@[simp] theorem get_dO {s : KI} {st : Sto} {l : Nat} {w : W} (h : st[l]? = some (dO s)) : mtV .get (.ref l) [.dat (.str w), .dat (.int 0)] st = some (.dat (.int (gtI s (.inr w))), st) := by
  have e : snap st (.ref l) = some (.dK s.1 (s.2.map .int)) := by simp [snap, h, dO, fzO]
  simp only [mtV, e, toK, Option.map_some, dlook_int, gtI]
  cases dlI s.1 s.2 (Sum.inr w) <;> rfl
theorem put_dO {s : KI} {st : Sto} {l : Nat} {w : W} {x : Int} (h : st[l]? = some (dO s)) (hl : s.1.length < LIM) : storeV (.ref l) (.dat (.str w)) (.int x) st = some (st.set l (dO (dpI s (.inr w) x))) := by
  rw [sV_dK, h]
  simp only [dO, toK, Option.bind_some, if_pos hl, dput_int]
theorem kind_dO {s : KI} {st : Sto} {l : Nat} (h : st[l]? = some (dO s)) : kindV st (.ref l) = 2 := by simp [kindV, snap, h, dO, fzO]
theorem COMP_nil {C : Calls} {elt : E} {tg own : List Nat} {tup : Bool} {c : Option E} {env : Env} {st : Sto} : COMP C elt tg tup c own [] env st = some ([], st) := rfl
theorem COMP_cons {C : Calls} {elt : E} {tg own : List Nat} {tup : Bool} {d : D} {ds : List D} {env : Env} {st : Sto} : COMP C elt tg tup none own (d :: ds) env st = (bindT tg tup d (wipeE env own)).bind fun e1 => (evE C elt e1 st).bind fun r => (toD r.1 r.2).bind fun q => (COMP C elt tg tup none own ds env q.2).map fun t => (q.1 :: t.1, t.2) := by
  unfold COMP
  simp only [compV, evC, Option.bind_some, if_true]
theorem COMPP_cons {C : Calls} {elt : E} {tg own : List Nat} {tup : Bool} {l : Nat} {ds0 : List D} {d : D} {ds : List D} {env : Env} {st : Sto} {e1 : Env} {d' : D} {st' : Sto} (h1 : bindT tg tup d (wipeE env own) = some e1) (h2 : evE C elt e1 st = some (.dat d', st')) (h3 : st'[l]? = some (.lst ds0)) :
    COMPP C elt tg tup none own l ds0 (d :: ds) env st = (COMPP C elt tg tup none own l ds0 ds env st').map fun t => (d' :: t.1, t.2) := by
  unfold COMPP
  simp only [compG, evC, Option.bind_some, if_true, h1, h2, toD]
  rw [if_pos (show lstS l ds0 st' from h3)]
end NK
set_option Elab.async false
set_option linter.all false
set_option autoImplicit false
set_option maxRecDepth 100000
/-! LPlan: plans as a type of their own, how they are data, what is counted in them. -/
namespace NK
open PySem L2
structure Sm where
  ts : List (Nat × Int)
  w : Int
  m : Int
inductive Stm where
  | set (x : Nat) (s : Sm) | any (x : Nat) | note (rs : List Row)
  | cho (a b : List Stm) | ite (r : Row) (a b : List Stm) | whl (r : Row) (rs : List Row) (f : Option (Sm × Int)) (b : List Stm)
abbrev wSet : W := [115, 101, 116]
abbrev wAny : W := [97, 110, 121]
abbrev wNote : W := [110, 111, 116, 101]
abbrev wCho : W := [99, 104, 111, 111, 115, 101]
abbrev wIf : W := [105, 102]
abbrev wWhl : W := [119, 104, 105, 108, 101]
def smD (s : Sm) : D := .tup [.tup (s.ts.map tmD), .int s.w, .int s.m]
def feD : Option (Sm × Int) → D
  | none => .non
  | some p => .tup [smD p.1, .int p.2]
mutual
def sD : Stm → D
  | .set x s => .tup [.str wSet, nmD x, smD s]
  | .any x => .tup [.str wAny, nmD x]
  | .note rs => .tup [.str wNote, .tup (rs.map rD)]
  | .cho a b => .tup [.str wCho, .tup (bD a), .tup (bD b)]
  | .ite r a b => .tup [.str wIf, rD r, .tup (bD a), .tup (bD b)]
  | .whl r rs f b => .tup [.str wWhl, rD r, .tup (rs.map rD), feD f, .tup (bD b)]
def bD : List Stm → List D
  | [] => []
  | s :: b => sD s :: bD b
end
theorem bD_map : ∀ b : List Stm, bD b = b.map sD
  | [] => by simp [bD]
  | s :: b => by simp [bD, bD_map b]
/-- a plan -/
structure Pl where
  ns : List Nat
  rs : List Row
  b : List Stm
def pD (p : Pl) : D := .tup [.tup (p.ns.map nmD), .tup (p.rs.map rD), .tup (bD p.b)]
mutual
/-- what the statements weigh -/
def cntS (w : Stm → Nat) : Stm → Nat
  | .set x s => w (.set x s)
  | .any x => w (.any x)
  | .note rs => w (.note rs)
  | .cho a b => w (.cho a b) + (cntB w a + cntB w b)
  | .ite r a b => w (.ite r a b) + (cntB w a + cntB w b)
  | .whl r rs f b => w (.whl r rs f b) + cntB w b
def cntB (w : Stm → Nat) : List Stm → Nat
  | [] => 0
  | s :: b => cntS w s + cntB w b
end
mutual
def depS : Stm → Nat
  | .set _ _ => 1
  | .any _ => 1
  | .note _ => 1
  | .cho a b => 1 + max (depB a) (depB b)
  | .ite _ a b => 1 + max (depB a) (depB b)
  | .whl _ _ _ b => 1 + depB b
def depB : List Stm → Nat
  | [] => 0
  | s :: b => max (depS s) (depB b)
end
def w1 : Stm → Nat := fun _ => 1
def wBr : Stm → Nat
  | .cho _ _ => 1
  | .ite _ _ _ => 1
  | _ => 0
def wLp : Stm → Nat
  | .whl _ _ _ _ => 1
  | _ => 0
def wAn : Stm → Nat
  | .any _ => 1
  | _ => 0
def wNt : Stm → Nat
  | .note rs => rs.length
  | _ => 0
structure SmOk (ns : List Nat) (s : Sm) : Prop where
  ts : TmDr s.ts ns
  w : Bd 80 s.w
  m0 : 0 < s.m
  m1 : s.m ≤ 10000000000000000000
structure RwDr (ns : List Nat) (r : Row) : Prop where
  ts : TmDr r.2.1 ns
  b : Bd 80 r.2.2
mutual
def okS (ns : List Nat) : Stm → Prop
  | .set x s => x ∈ ns ∧ SmOk ns s
  | .any x => x ∈ ns
  | .note rs => ∀ r ∈ rs, RwDr ns r
  | .cho a b => okB ns a ∧ okB ns b
  | .ite r a b => RwDr ns r ∧ okB ns a ∧ okB ns b
  | .whl r rs f b => RwDr ns r ∧ (∀ r ∈ rs, RwDr ns r) ∧ rs.length ≤ 2 ∧ (∀ p, f = some p → SmOk ns p.1 ∧ 0 < p.2 ∧ Bd 81 p.2 ∧ cntB wLp b = 0) ∧ okB ns b
def okB (ns : List Nat) : List Stm → Prop
  | [] => True
  | s :: b => okS ns s ∧ okB ns b
end
theorem okB_app {ns : List Nat} : ∀ {a b : List Stm}, okB ns (a ++ b) ↔ okB ns a ∧ okB ns b
  | [], b => by simp [okB]
  | s :: a, b => by simp [okB, okB_app (a := a), and_assoc]
theorem cntB_app {w : Stm → Nat} : ∀ {a b : List Stm}, cntB w (a ++ b) = cntB w a + cntB w b
  | [], b => by simp [cntB]
  | s :: a, b => by simp [cntB, cntB_app (a := a), Nat.add_assoc]
theorem depB_app : ∀ {a b : List Stm}, depB (a ++ b) = max (depB a) (depB b)
  | [], b => by simp [depB]
  | s :: a, b => by simp [depB, depB_app (a := a), Nat.max_assoc]
theorem bD_app {a b : List Stm} : bD (a ++ b) = bD a ++ bD b := by simp [bD_map]
theorem cntB_len {b : List Stm} : b.length ≤ cntB w1 b := by
  induction b with
  | nil => exact Nat.zero_le _
  | cons s b ih =>
    have : 1 ≤ cntS w1 s := by cases s <;> simp [cntS, w1]
    simp only [List.length_cons, cntB]
    omega
/-- what may still be drawn -/
structure Bud where
  at_ : Nat
  n : Nat
  br : Nat
  lp : Nat
  an : Nat
  nt : Nat
def stL (cs : List Int) (q : Bud) : List D := [.lst (cs.map .int), .int q.at_, .int q.n, .int q.br, .int q.lp, .int q.an, .int q.nt]
structure ConsS (q : Bud) (s : Stm) (q' : Bud) : Prop where
  at_ : q.at_ < q'.at_
  n : q'.n + cntS w1 s = q.n + 1
  br : q'.br + cntS wBr s = q.br
  lp : q'.lp + cntS wLp s = q.lp
  an : q'.an + cntS wAn s = q.an
  nt : q'.nt + cntS wNt s = q.nt
structure ConsB (q : Bud) (b : List Stm) (q' : Bud) : Prop where
  at_ : q.at_ ≤ q'.at_
  n : q'.n + cntB w1 b = q.n
  br : q'.br + cntB wBr b = q.br
  lp : q'.lp + cntB wLp b = q.lp
  an : q'.an + cntB wAn b = q.an
  nt : q'.nt + cntB wNt b = q.nt
end NK
set_option Elab.async false
set_option linter.all false
set_option autoImplicit false
set_option maxRecDepth 100000
/-! LGenA: the plan that is drawn by cells. -/
namespace NK
open PySem L2
@[simp] theorem chk_two {r : Ret} {o o' : Obj} : CHK (r, [o, o']) = if flat o && flat o' then some (r, [o, o']) else none := by simp [CHK]
theorem c_sm (d : Nat) {ns : List Nat} {a b : Int} (h : Pu a b) (hl : ns.length ≤ 10) : ∃ s a' b', call PG (d + 4) 23 [.ref 0, .dat (.tup (ns.map nmD))] [pu a b] = some (.dat (smD s), [pu a' b']) ∧ Pu a' b' ∧ SmOk ns s := by
  obtain ⟨ts, w, m, a', b', e, hp, h1, h2, h3, h4⟩ := c_sum d (ns := ns) h hl
  exact ⟨⟨ts, w, m⟩, a', b', e, hp, ⟨h1, h2, h3, h4⟩⟩
theorem c_rw (d : Nat) {ns : List Nat} {a b : Int} (h : Pu a b) (hl : ns.length ≤ 10) : ∃ r a' b', call PG (d + 4) 29 [.ref 0, .dat (.tup (ns.map nmD))] [pu a b] = some (.dat (rD r), [pu a' b']) ∧ Pu a' b' ∧ RwDr ns r := by
  obtain ⟨m, ts, w, a', b', e, hp, h1, h2⟩ := c_row d (ns := ns) h hl
  exact ⟨(m, ts, w), a', b', e, hp, ⟨h1, h2⟩⟩
section
variable {cs : List Int}
theorem ix7_1 : ix 7 1 = some 1 := rfl
theorem ix7_2 : ix 7 2 = some 2 := rfl
theorem ix7_3 : ix 7 3 = some 3 := rfl
theorem ix7_4 : ix 7 4 = some 4 := rfl
theorem ix7_5 : ix 7 5 = some 5 := rfl
theorem ix7_6 : ix 7 6 = some 6 := rfl
@[simp] theorem at_5 {α : Type} {a b c d e f : α} {xs : List α} : at? (a :: b :: c :: d :: e :: f :: xs) 5 = some f := by
  rw [show (5 : Int) = ((5 : Nat) : Int) from rfl, at_nat]; rfl
@[simp] theorem at_6 {α : Type} {a b c d e f g : α} {xs : List α} : at? (a :: b :: c :: d :: e :: f :: g :: xs) 6 = some g := by
  rw [show (6 : Int) = ((6 : Nat) : Int) from rfl, at_nat]; rfl
theorem c_next (d : Nat) (hcs : ∀ c ∈ cs, Bd 1050000 c) (q : Bud) : ∃ a b, call PG (d + 2) 52 [.ref 0] [.lst (stL cs q)] = some (.own (pu a b), [.lst (stL cs { q with at_ := q.at_ + 1 })]) ∧ Pu a b := by
  obtain ⟨at_, n, br, lp, an, nt⟩ := q
  by_cases hl : at_ < cs.length
  · have hc := hcs cs[at_] (List.getElem_mem hl)
    obtain ⟨a, b, e, hp⟩ := c_purse d hc
    refine ⟨a, b, ?_, hp⟩
    have e0 : at? (cs.map D.int) (at_ : Int) = some (.int cs[at_]) := by rw [at_nat, List.getElem?_map, List.getElem?_eq_getElem hl]; rfl
    have hl' : (at_ : Int) < (cs.length : Int) := by omega
    rw [call_go F52 rfl rfl]
    simp [F52, startE, stL, ix7_1, hl', e0, e]
    simp [pu, endV, fzO]
  · refine ⟨0, 0, ?_, ⟨by unfold Bd; exact Nat.two_pow_pos _, by unfold Bd; exact Nat.two_pow_pos _⟩⟩
    have hl' : ¬ (at_ : Int) < (cs.length : Int) := by omega
    rw [call_go F52 rfl rfl]
    simp [F52, startE, stL, ix7_1, hl']
    simp [pu, endV, fzO]
theorem set_self {α : Type} {st : List α} {l : Nat} {o : α} (h : st[l]? = some o) : st.set l o = st := by
  obtain ⟨hl, e⟩ := List.getElem?_eq_some_iff.mp h
  rw [← e, List.set_getElem_self]
theorem comp_rows {C : Calls} {D0 : Nat} (hC : C = call PG (D0 + 4)) {ns : List Nat} (hns : ns.length ≤ 10) {i j v l : Nat} {env : Env} (hi : env[i]? = some (some (.ref l))) (hj : env[j]? = some (some (.dat (.tup (ns.map nmD))))) (hiv : i ≠ v) (hjv : j ≠ v) : ∀ {ds : List D} {st : Sto} {a b : Int}, st[l]? = some (pu a b) → Pu a b →
    ∃ (rs : List Row) (a' b' : Int), COMP C (.call 29 [true, false] [(.var i), (.var j)]) [v] false none [v] ds env st = some (rs.map rD, st.set l (pu a' b')) ∧ Pu a' b' ∧ (∀ r ∈ rs, RwDr ns r) ∧ rs.length = ds.length
  | [], st, a, b, hs, hp => ⟨[], a, b, by rw [set_self hs]; rfl, hp, fun _ h => (nomatch h), rfl⟩
  | d :: ds, st, a, b, hs, hp => by
    obtain ⟨r, a1, b1, e1, hp1, hr⟩ := c_rw D0 (ns := ns) hp hns
    have hl := (List.getElem?_eq_some_iff.mp hs).1
    obtain ⟨rs, a2, b2, ih, hp2, hrs, hlen⟩ := comp_rows hC hns hi hj hiv hjv (ds := ds) (st := st.set l (pu a1 b1)) (a := a1) (b := b1) (by rw [List.getElem?_set_self hl]) hp1
    refine ⟨r :: rs, a2, b2, ?_, hp2, fun x hx => ?_, by simp [hlen]⟩
    · rw [List.set_set] at ih
      unfold COMP at ih ⊢
      subst hC
      have h1 : ((env.set v none).set v (some (.dat d)))[i]? = some (some (.ref l)) := by rw [List.getElem?_set_ne (Ne.symm hiv), List.getElem?_set_ne (Ne.symm hiv), hi]
      have h2 : ((env.set v none).set v (some (.dat d)))[j]? = some (some (.dat (.tup (ns.map nmD)))) := by rw [List.getElem?_set_ne (Ne.symm hjv), List.getElem?_set_ne (Ne.symm hjv), hj]
      simp only [compV, wipeE, bT_one, ob_some, evC, if_true] at ih ⊢
      have e2 : evE (call PG (D0 + 4)) (.call 29 [true, false] [(.var i), (.var j)]) ((env.set v none).set v (some (.dat d))) st = some (.dat (rD r), st.set l (pu a1 b1)) := by
        have h1' : (env.set v (some (.dat d)))[i]? = some (some (.ref l)) := by rw [List.getElem?_set_ne (Ne.symm hiv), hi]
        have h2' : (env.set v (some (.dat d)))[j]? = some (some (.dat (.tup (ns.map nmD)))) := by rw [List.getElem?_set_ne (Ne.symm hjv), hj]
        simp [h1', h2', hs, e1]
      simp only [e2, ob_some, toD]
      rw [ih]
      rfl
    · rcases List.mem_cons.mp hx with e | hx
      · subst e; exact hr
      · exact hrs x hx
end
/-- a statement drawn at depth k, j depths being left below -/
def GS (cs : List Int) (ns : List Nat) (d j : Nat) (k : Int) : Prop := ∀ q : Bud, ∃ (s : Stm) (q' : Bud), call PG d 55 [.ref 0, .dat (.tup (ns.map nmD)), .dat (.int k)] [.lst (stL cs q)] = some (.dat (sD s), [.lst (stL cs q')]) ∧ okS ns s ∧ ConsS q s q' ∧ depS s ≤ j + 1
def GB (cs : List Int) (ns : List Nat) (d j : Nat) (k : Int) : Prop := ∀ q : Bud, ∃ (b : List Stm) (q' : Bud), call PG d 53 [.ref 0, .dat (.tup (ns.map nmD)), .dat (.int k)] [.lst (stL cs q)] = some (.dat (.tup (bD b)), [.lst (stL cs q')]) ∧ okB ns b ∧ ConsB q b q' ∧ depB b ≤ j + 1
section
variable {cs : List Int} {ns : List Nat}
theorem ConsS.toB {q : Bud} {s : Stm} {q' : Bud} {n : Nat} (h : ConsS q s q') (hn : n = q.n + 1) : ConsB { q with n := n } [s] q' := by
  obtain ⟨h1, h2, h3, h4, h5, h6⟩ := h
  refine ⟨?_, ?_, ?_, ?_, ?_, ?_⟩ <;> (try simp only [cntB]) <;> (try dsimp only at *) <;> omega
theorem ConsB.app {q q1 q2 : Bud} {a b : List Stm} (h : ConsB q a q1) (h' : ConsB q1 b q2) : ConsB q (a ++ b) q2 := by
  obtain ⟨h1, h2, h3, h4, h5, h6⟩ := h
  obtain ⟨g1, g2, g3, g4, g5, g6⟩ := h'
  refine ⟨?_, ?_, ?_, ?_, ?_, ?_⟩ <;> (try simp only [cntB_app]) <;> omega
theorem ConsB.nil {q : Bud} : ConsB q [] q := ⟨Nat.le_refl _, rfl, rfl, rfl, rfl, rfl⟩
theorem for_blk {d j : Nat} {k : Int} (h : GS cs ns d j k) (P : Obj) (x3 : Option Val) : ∀ {ds : List D} {q : Bud} {bs : List Stm} {x5 : Option Val}, (∀ x ∈ ds, True) → bs.length + ds.length ≤ 100 →
    ∃ (b2 : List Stm) (q' : Bud) (y5 : Option Val), FOR (call PG d) [5] false F53b0 ds [some (.ref 0), some (.dat (.tup (ns.map nmD))), some (.dat (.int k)), x3, some (.ref 2), x5] [.lst (stL cs q), P, .lst (bD bs)] =
      some (.nx [some (.ref 0), some (.dat (.tup (ns.map nmD))), some (.dat (.int k)), x3, some (.ref 2), y5] [.lst (stL cs q'), P, .lst (bD (bs ++ b2))]) ∧ okB ns b2 ∧ ConsB q b2 q' ∧ depB b2 ≤ j + 1
  | [], q, bs, x5, _, _ => ⟨[], q, x5, by rw [List.append_nil]; rfl, trivial, ConsB.nil, Nat.zero_le _⟩
  | x :: ds, q, bs, x5, _, hl => by
    simp only [List.length_cons] at hl
    by_cases hn : 0 < q.n
    · obtain ⟨n', hn'⟩ : ∃ n', q.n = n' + 1 := ⟨q.n - 1, by omega⟩
      obtain ⟨s, q1, e1, ok1, c1, dp1⟩ := h { q with n := n' }
      obtain ⟨b2, q2, y5, e2, ok2, c2, dp2⟩ := for_blk h P x3 (ds := ds) (q := q1) (bs := bs ++ [s]) (x5 := some (.dat x)) (fun _ _ => trivial) (by simp; omega)
      refine ⟨s :: b2, q2, y5, ?_, ⟨ok1, ok2⟩, ?_, ?_⟩
      · rw [FOR_cons, show bs ++ s :: b2 = bs ++ [s] ++ b2 by simp, ← e2]
        have hl2 : (bD bs).length < LIM := by rw [bD_map, List.length_map]; unfold LIM; omega
        simp only [stL] at e1 ⊢
        rw [bD_app]
        simp [F53b0, F53i0, hn', ix7_2, e1, hl2, bD]
      · have := (c1.toB (n := q.n) hn').app c2
        exact this
      · simp only [depB]
        omega
    · obtain ⟨b2, q2, y5, e2, ok2, c2, dp2⟩ := for_blk h P x3 (ds := ds) (q := q) (bs := bs) (x5 := some (.dat x)) (fun _ _ => trivial) (by omega)
      refine ⟨b2, q2, y5, ?_, ok2, c2, dp2⟩
      rw [FOR_cons, ← e2]
      simp [stL, F53b0, F53i0, hn]
theorem gb_of {d j : Nat} {k : Int} (hcs : ∀ c ∈ cs, Bd 1050000 c) (h : GS cs ns (d + 2) j k) : GB cs ns (d + 3) j k := by
  intro q
  obtain ⟨a, b, e1, hp⟩ := c_next d hcs q
  obtain ⟨r, a1, b1, e2, hp2, l1, u1⟩ := c_take (d + 1) (m := 5) hp (by decide) (bd_lit (n := 20) |>.mono (by decide))
  have pick : ∃ m : Int, at? [D.int 0, .int 1, .int 2, .int 1, .int 3] r = some (.int m) ∧ 0 ≤ m ∧ m ≤ 3 := by
    have : r = 0 ∨ r = 1 ∨ r = 2 ∨ r = 3 ∨ r = 4 := by omega
    rcases this with e | e | e | e | e <;> subst e <;> exact ⟨_, rfl, by decide, by decide⟩
  obtain ⟨m, hm, g0, g1⟩ := pick
  have hr : rngOk 0 m = true := rngOk_small (by decide) (by omega) (by omega) (by decide)
  obtain ⟨b2, q2, y5, e3, ok, c, dp⟩ := for_blk h (pu a1 b1) (some (.ref 1)) (ds := rngL 0 m) (q := { q with at_ := q.at_ + 1 }) (bs := []) (x5 := none) (fun _ _ => trivial) (by rw [rngL_len]; simp; omega)
  refine ⟨b2, q2, ?_, ok, ?_, dp⟩
  · rw [call_go F53 rfl rfl]
    simp only [List.nil_append, bD] at e3
    simp [F53, startE, e1, e2, hm, hr, e3]
  · obtain ⟨h1, h2, h3, h4, h5, h6⟩ := c
    exact ⟨by dsimp only at h1; omega, h2, h3, h4, h5, h6⟩
/-- the loop that is drawn -/
theorem c_loop {d j : Nat} {k : Int} (hns : ns.length ≤ 10) (h : GB cs ns (d + 5) j (k + 1)) {q : Bud} {a b : Int} {l' : Nat} (hq : q.lp = l' + 1) (hp : Pu a b) : ∃ (s : Stm) (q' : Bud) (a' b' : Int), call PG (d + 6) 54 [.ref 0, .dat (.tup (ns.map nmD)), .dat (.int k), .ref 1] [.lst (stL cs q), pu a b] = some (.dat (sD s), [.lst (stL cs q'), pu a' b']) ∧ okS ns s ∧
    (∃ r rs f bl, s = .whl r rs f bl ∧ ConsB { q with lp := l' } bl q' ∧ depB bl ≤ j + 1) := by
  obtain ⟨r, a1, b1, e1, hp1, hr⟩ := c_rw (d + 1) (ns := ns) hp hns
  obtain ⟨m, a2, b2, e2, hp2, l2, u2⟩ := c_take (d + 4) (m := 3) hp1 (by decide) (bd_lit (n := 20) |>.mono (by decide))
  obtain ⟨rs, a3, b3, e3, hp3, hrs, hlen⟩ := comp_rows (C := call PG (d + 5)) (D0 := d + 1) rfl hns (i := 3) (j := 1) (v := 9) (l := 1) (env := [some (.ref 0), some (.dat (.tup (ns.map nmD))), some (.dat (.int k)), some (.ref 1), some (.dat (rD r)), none, none, none, none, none]) rfl rfl (by decide) (by decide) (ds := rngL 0 m) (st := [.lst (stL cs { q with lp := l' }), pu a2 b2]) rfl hp2
  have hr0 : rngOk 0 m = true := rngOk_small (by decide) (by omega) (by omega) (by decide)
  obtain ⟨t, a4, b4, e4, hp4, l4, u4⟩ := c_take (d + 4) (m := 3) hp3 (by decide) (bd_lit (n := 20) |>.mono (by decide))
  have mid : ∃ f a5 b5, Pu a5 b5 ∧ (∀ p, f = some p → SmOk ns p.1 ∧ 0 < p.2 ∧ Bd 81 p.2) ∧ evS (call PG (d + 5)) F54i0 [some (.ref 0), some (.dat (.tup (ns.map nmD))), some (.dat (.int k)), some (.ref 1), some (.dat (rD r)), some (.dat (.lst (rs.map rD))), some (.dat .non), none, none, none] [.lst (stL cs { q with lp := l' }), pu a3 b3] =
      some (.nx [some (.ref 0), some (.dat (.tup (ns.map nmD))), some (.dat (.int k)), some (.ref 1), some (.dat (rD r)), some (.dat (.lst (rs.map rD))), some (.dat (feD f)), none, none, none] [.lst (stL cs { q with lp := l' }), pu a5 b5]) := by
    by_cases ht : t = 1
    · subst ht
      obtain ⟨s, a5, b5, e5, hp5, hs⟩ := c_sm (d + 1) (ns := ns) hp4 hns
      obtain ⟨w, a6, b6, e6, hp6, hw⟩ := c_number21 (d + 3) hp5
      refine ⟨some (s, 1 + (w.natAbs : Int)), a6, b6, hp6, fun p hpp => ?_, ?_⟩
      · cases hpp
        refine ⟨hs, by dsimp only; omega, ?_⟩
        unfold Bd at hw ⊢
        dsimp only
        omega
      · simp [F54i0, e4, e5, e6, feD]
    · refine ⟨none, a4, b4, hp4, fun p hpp => (nomatch hpp), ?_⟩
      simp [F54i0, e4, ht, feD]
  obtain ⟨f, a5, b5, hp5, hf, emid⟩ := mid
  obtain ⟨bl, q', e5, okb, cb, db⟩ := h { q with lp := l' }
  have hlp : q'.lp + cntB wLp bl = l' := cb.lp
  have hrl : rs.length ≤ 2 := by rw [hlen, rngL_len]; omega
  by_cases hb : cntB wLp bl = 0
  · refine ⟨.whl r rs f bl, q', a5, b5, ?_, ⟨hr, hrs, hrl, fun p hpp => ⟨(hf p hpp).1, (hf p hpp).2.1, (hf p hpp).2.2, hb⟩, okb⟩, r, rs, f, bl, rfl, cb, db⟩
    have hlt : ¬ q'.lp < l' := by omega
    rw [call_go F54 rfl rfl]
    simp only [stL] at e3 emid e5 ⊢
    simp [F54, startE, hq, ix7_4, e1, e2, hr0, e3, emid, e5, F54i1, hlt, sD]
  · refine ⟨.whl r rs none bl, q', a5, b5, ?_, ⟨hr, hrs, hrl, fun p hpp => (nomatch hpp), okb⟩, r, rs, none, bl, rfl, cb, db⟩
    have hlt : q'.lp < l' := by omega
    rw [call_go F54 rfl rfl]
    simp only [stL] at e3 emid e5 ⊢
    simp [F54, startE, hq, ix7_4, e1, e2, hr0, e3, emid, e5, F54i1, hlt, sD, feD]
theorem ite_bl {c : Prop} [Decidable c] {b : Bool} {st : Sto} : (if c then some (Val.dat (.bl b), st) else some (Val.dat (.bl false), st)) = some (Val.dat (.bl (decide c && b)), st) := by
  by_cases h : c <;> simp [h]
theorem nmD_at {ns : List Nat} {i : Int} (h0 : 0 ≤ i) (h1 : i < ns.length) : ∃ x, at? (ns.map nmD) i = some (nmD x) ∧ x ∈ ns := by
  obtain ⟨n, rfl⟩ : ∃ n : Nat, i = (n : Int) := ⟨i.toNat, by omega⟩
  have hn : n < ns.length := by omega
  exact ⟨ns[n], by rw [at_nat, List.getElem?_map, List.getElem?_eq_getElem hn]; rfl, List.getElem_mem hn⟩
theorem gs_of {d j : Nat} {k : Int} (hcs : ∀ c ∈ cs, Bd 1050000 c) (hns : ns.length ≤ 10) (hn1 : 1 ≤ ns.length) (hk : k + j = 4) (h : j = 0 ∨ ∃ i, j = i + 1 ∧ GB cs ns (d + 5) i (k + 1) ∧ GB cs ns (d + 6) i (k + 1)) : GS cs ns (d + 7) j k := by
  intro q
  obtain ⟨a, b, e1, hp⟩ := c_next (d + 4) hcs q
  obtain ⟨r, a1, b1, e2, hp1, l1, u1⟩ := c_take (d + 5) (m := 10) hp (by decide) (bd_lit (n := 20) |>.mono (by decide))
  obtain ⟨at_, n, br, lp, an, nt⟩ := q
  by_cases h0 : r = 0 ∧ k < 4 ∧ 0 < lp
  · obtain ⟨h0, hk4, hlp⟩ := h0
    obtain ⟨i, rfl, hB, hB6⟩ : ∃ i, j = i + 1 ∧ GB cs ns (d + 5) i (k + 1) ∧ GB cs ns (d + 6) i (k + 1) := by
      rcases h with h | h
      · omega
      · exact h
    obtain ⟨l', rfl⟩ : ∃ l', lp = l' + 1 := ⟨lp - 1, by omega⟩
    obtain ⟨s, q', a2, b2, e3, oks, r', rs, f, bl, rfl, cb, db⟩ := c_loop (d := d) hns hB (q := ⟨at_ + 1, n, br, l' + 1, an, nt⟩) (l' := l') rfl hp1
    obtain ⟨c1, c2, c3, c4, c5, c6⟩ := cb
    refine ⟨_, q', ?_, oks, ⟨?_, ?_, ?_, ?_, ?_, ?_⟩, ?_⟩
    · rw [call_go F55 rfl rfl]
      simp only [stL, Int.natCast_add, Int.natCast_one] at e1 e3 ⊢
      have hl0 : (0 : Int) < (l' : Int) + 1 := by omega
      simp [F55, startE, e1, e2, h0, hk4, hl0, e3]
    all_goals simp only [cntS, w1, wBr, wLp, wAn, wNt, depS]
    all_goals dsimp only at c1 c2 c3 c4 c5 c6
    all_goals omega
  by_cases h1 : r = 1 ∧ k < 4 ∧ 0 < br
  · obtain ⟨h1, hk4, hbr⟩ := h1
    obtain ⟨i, rfl, hB, hB6⟩ : ∃ i, j = i + 1 ∧ GB cs ns (d + 5) i (k + 1) ∧ GB cs ns (d + 6) i (k + 1) := by
      rcases h with h | h
      · omega
      · exact h
    obtain ⟨l', rfl⟩ : ∃ l', br = l' + 1 := ⟨br - 1, by omega⟩
    obtain ⟨x, q1, e3, okx, cx, dx⟩ := hB6 ⟨at_ + 1, n, l', lp, an, nt⟩
    obtain ⟨y, q2, e4, oky, cy, dy⟩ := hB6 q1
    obtain ⟨c1, c2, c3, c4, c5, c6⟩ := cx
    obtain ⟨g1, g2, g3, g4, g5, g6⟩ := cy
    refine ⟨.cho x y, q2, ?_, ⟨okx, oky⟩, ⟨?_, ?_, ?_, ?_, ?_, ?_⟩, ?_⟩
    · rw [call_go F55 rfl rfl]
      simp only [stL, Int.natCast_add, Int.natCast_one] at e1 e3 e4 ⊢
      have hl0 : (0 : Int) < (l' : Int) + 1 := by omega
      simp [F55, startE, e1, e2, h1, hk4, hl0, ix7_3, e3, e4, sD]
    all_goals simp only [cntS, w1, wBr, wLp, wAn, wNt, depS]
    all_goals dsimp only at c1 c2 c3 c4 c5 c6
    all_goals omega
  by_cases h2 : r = 2 ∧ k < 4 ∧ 0 < br
  · obtain ⟨h2, hk4, hbr⟩ := h2
    obtain ⟨i, rfl, hB, hB6⟩ : ∃ i, j = i + 1 ∧ GB cs ns (d + 5) i (k + 1) ∧ GB cs ns (d + 6) i (k + 1) := by
      rcases h with h | h
      · omega
      · exact h
    obtain ⟨l', rfl⟩ : ∃ l', br = l' + 1 := ⟨br - 1, by omega⟩
    obtain ⟨rw_, a2, b2, e5, hp2, hr⟩ := c_rw (d + 2) (ns := ns) hp1 hns
    obtain ⟨x, q1, e3, okx, cx, dx⟩ := hB6 ⟨at_ + 1, n, l', lp, an, nt⟩
    obtain ⟨y, q2, e4, oky, cy, dy⟩ := hB6 q1
    obtain ⟨c1, c2, c3, c4, c5, c6⟩ := cx
    obtain ⟨g1, g2, g3, g4, g5, g6⟩ := cy
    refine ⟨.ite rw_ x y, q2, ?_, ⟨hr, okx, oky⟩, ⟨?_, ?_, ?_, ?_, ?_, ?_⟩, ?_⟩
    · rw [call_go F55 rfl rfl]
      simp only [stL, Int.natCast_add, Int.natCast_one] at e1 e3 e4 ⊢
      have hl0 : (0 : Int) < (l' : Int) + 1 := by omega
      simp [F55, startE, e1, e2, h2, hk4, hl0, ix7_3, e3, e4, e5, sD]
    all_goals simp only [cntS, w1, wBr, wLp, wAn, wNt, depS]
    all_goals dsimp only at c1 c2 c3 c4 c5 c6
    all_goals omega
  obtain ⟨t, a2, b2, e3, hp2, l2, u2⟩ := c_take (d + 5) (m := (ns.length : Int)) hp1 (by omega) (Bd.of_le (n := 9000) (b := 10) (by omega) (by
    have : (10 : Nat) < 2 ^ 4 := by decide
    exact Nat.lt_of_lt_of_le this (Nat.pow_le_pow_right (by decide) (by decide))))
  obtain ⟨x, ex, hx⟩ := nmD_at l2 u2
  by_cases h3 : r = 3 ∧ 0 < an
  · obtain ⟨h3, han⟩ := h3
    obtain ⟨l', rfl⟩ : ∃ l', an = l' + 1 := ⟨an - 1, by omega⟩
    refine ⟨.any x, ⟨at_ + 1, n, br, lp, l', nt⟩, ?_, hx, ⟨?_, ?_, ?_, ?_, ?_, ?_⟩, ?_⟩
    · rw [call_go F55 rfl rfl]
      simp only [stL, Int.natCast_add, Int.natCast_one] at e1 ⊢
      have hl0 : (0 : Int) < (l' : Int) + 1 := by omega
      simp [F55, startE, e1, e2, h3, hl0, ix7_5, e3, ex, sD]
    all_goals simp only [cntS, w1, wBr, wLp, wAn, wNt, depS]
    all_goals omega
  by_cases h4 : r = 4 ∧ 0 < nt
  · obtain ⟨h4, hnt⟩ := h4
    obtain ⟨t4, a4, b4, e4, hp4, l4, u4⟩ := c_take (d + 5) (m := 2) hp1 (by decide) (bd_lit (n := 20) |>.mono (by decide))
    obtain ⟨m, hm, hm1, hm2⟩ : ∃ m : Nat, (if (1 + t4 : Int) < (nt : Int) then 1 + t4 else (nt : Int)) = (m : Int) ∧ m ≤ nt ∧ m ≤ 2 := by
      by_cases hc : (1 + t4 : Int) < (nt : Int)
      · rw [if_pos hc]; exact ⟨(1 + t4).toNat, by omega, by omega, by omega⟩
      · rw [if_neg hc]; exact ⟨nt, rfl, Nat.le_refl _, by omega⟩
    obtain ⟨rs, a5, b5, e5, hp5, hrs, hlen⟩ := comp_rows (C := call PG (d + 6)) (D0 := d + 2) rfl hns (i := 3) (j := 1) (v := 8) (l := 1) (env := [some (.ref 0), some (.dat (.tup (ns.map nmD))), some (.dat (.int k)), some (.ref 1), some (.dat (.int 4)), none, none, some (.dat (.int m)), none]) rfl rfl (by decide) (by decide) (ds := rngL 0 m) (st := [.lst (stL cs ⟨at_ + 1, n, br, lp, an, nt - m⟩), pu a4 b4]) rfl hp4
    have hr0 : rngOk 0 (m : Int) = true := rngOk_small (by decide) (by omega) (by omega) (by decide)
    have hlm : rs.length = m := by rw [hlen, rngL_len]; omega
    refine ⟨.note rs, ⟨at_ + 1, n, br, lp, an, nt - m⟩, ?_, hrs, ⟨?_, ?_, ?_, ?_, ?_, ?_⟩, ?_⟩
    · rw [call_go F55 rfl rfl]
      have hsub : ((nt - m : Nat) : Int) = (nt : Int) - (m : Int) := by omega
      simp only [stL, Int.natCast_add, Int.natCast_one, hsub] at e1 e5 ⊢
      have hl0 : (0 : Int) < (nt : Int) := by omega
      simp [F55, startE, e1, e2, h4, hnt, ix7_6, e4, hm, hr0, e5, sD]
    all_goals simp only [cntS, w1, wBr, wLp, wAn, wNt, depS]
    all_goals omega
  obtain ⟨s, a3, b3, e4, hp3, hs⟩ := c_sm (d + 2) (ns := ns) hp2 hns
  refine ⟨.set x s, ⟨at_ + 1, n, br, lp, an, nt⟩, ?_, ⟨hx, hs⟩, ⟨?_, ?_, ?_, ?_, ?_, ?_⟩, ?_⟩
  · rw [call_go F55 rfl rfl]
    simp only [stL, Int.natCast_add, Int.natCast_one] at e1 ⊢
    simp [F55, startE, e1, e2, ite_bl, h0, h1, h2, h3, h4, e3, ex, e4, sD]
  all_goals simp only [cntS, w1, wBr, wLp, wAn, wNt, depS]
  all_goals omega
theorem gs_all (hcs : ∀ c ∈ cs, Bd 1050000 c) (hns : ns.length ≤ 10) (hn1 : 1 ≤ ns.length) : ∀ (j d : Nat) (k : Int), k + j = 4 → GS cs ns (d + 3 * j + 7) j k
  | 0, d, k, hk => gs_of hcs hns hn1 hk (.inl rfl)
  | j + 1, d, k, hk => by
    have e : d + 3 * (j + 1) + 7 = (d + 3 * j + 3) + 7 := by omega
    rw [e]
    refine gs_of hcs hns hn1 hk (.inr ⟨j, rfl, ?_, ?_⟩)
    · exact gb_of (d := d + 3 * j + 5) hcs (gs_all hcs hns hn1 j d (k + 1) (by omega))
    · have := gb_of (d := (d + 1) + 3 * j + 5) hcs (gs_all hcs hns hn1 j (d + 1) (k + 1) (by omega))
      rw [show (d + 1) + 3 * j + 5 + 3 = d + 3 * j + 3 + 6 by omega] at this
      exact this
/-- what a plan that is drawn is like -/
structure PlOk (P : Pl) : Prop where
  nm : NmOk P.ns
  rs : ∀ r ∈ P.rs, RwDr P.ns r
  rl : P.rs.length ≤ 2
  ok : okB P.ns P.b
  n : cntB w1 P.b ≤ 24
  br : cntB wBr P.b ≤ 2
  lp : cntB wLp P.b ≤ 2
  an : cntB wAn P.b ≤ 1
  nt : cntB wNt P.b ≤ 2
  dp : depB P.b ≤ 4
structure PlDr (P : Pl) : Prop where
  rs : ∀ r ∈ P.rs, RwDr P.ns r
  rl : P.rs.length ≤ 2
  ok : okB P.ns P.b
  n : cntB w1 P.b ≤ 24
  br : cntB wBr P.b ≤ 2
  lp : cntB wLp P.b ≤ 2
  an : cntB wAn P.b ≤ 1
  nt : cntB wNt P.b ≤ 2
  dp : depB P.b ≤ 4
theorem wh_plan {d : Nat} (h : GS cs ns d 3 1) (x1 : Option Val) : ∀ (m : Nat) {q : Bud} {bs : List Stm}, q.n ≤ m → bs.length + q.n ≤ 24 →
    ∃ (b2 : List Stm) (q' : Bud), WH (call PG d) (.and (.cmp .lt (.idx (.var 3) (.int 1)) (.bi .len [(.var 0)])) (.cmp .gt (.idx (.var 3) (.int 2)) (.int 0))) F56b0 [some (.dat (.lst (cs.map .int))), x1, some (.dat (.tup (ns.map nmD))), some (.ref 0), some (.ref 1), none, none, none] [.lst (stL cs q), .lst (bD bs)] =
      some (.nx [some (.dat (.lst (cs.map .int))), x1, some (.dat (.tup (ns.map nmD))), some (.ref 0), some (.ref 1), none, none, none] [.lst (stL cs q'), .lst (bD (bs ++ b2))]) ∧ okB ns b2 ∧ ConsB q b2 q' ∧ depB b2 ≤ 4
  | m, q, bs, hm, hl => by
    by_cases hc : q.at_ < cs.length ∧ 0 < q.n
    · obtain ⟨hc1, hc2⟩ := hc
      obtain ⟨n', hn'⟩ : ∃ n', q.n = n' + 1 := ⟨q.n - 1, by omega⟩
      obtain ⟨s, q1, e1, ok1, c1, dp1⟩ := h { q with n := n' }
      have hn1 : q1.n ≤ n' := by
        have := c1.n
        have h1 : 1 ≤ cntS w1 s := by cases s <;> simp [cntS, w1]
        dsimp only at this
        omega
      obtain ⟨m', rfl⟩ : ∃ m', m = m' + 1 := ⟨m - 1, by omega⟩
      obtain ⟨b2, q2, e2, ok2, c2, dp2⟩ := wh_plan h x1 m' (q := q1) (bs := bs ++ [s]) (by omega) (by simp; omega)
      refine ⟨s :: b2, q2, ?_, ⟨ok1, ok2⟩, (c1.toB (n := q.n) hn').app c2, by simp only [depB]; omega⟩
      rw [show bs ++ s :: b2 = bs ++ [s] ++ b2 by simp, ← e2]
      have hl2 : (bD bs).length < LIM := by rw [bD_map, List.length_map]; unfold LIM; omega
      unfold WH
      have e1' := e1
      simp only [stL] at e1'
      refine whV_t _ _ (st' := [.lst (stL cs q), .lst (bD bs)]) (by simp [stL, hc1, hc2]) ?_
      simp only [stL]
      rw [bD_app]
      simp [F56b0, hn', ix7_2, e1', hl2, bD]
    · refine ⟨[], q, ?_, trivial, ConsB.nil, Nat.zero_le _⟩
      rw [List.append_nil]
      unfold WH
      refine whV_f _ _ ?_
      simp [stL, ite_bl]
      intro h
      omega
/-- .. of any few names -/
theorem c_plan0 {first : Int} (hf : Bd 1050000 first) (hcs : ∀ c ∈ cs, Bd 1050000 c) (hl3 : ns.length ≤ 10) (hl1 : 1 ≤ ns.length) (d : Nat) : ∃ P : Pl, call PG (d + 17) 56 [.dat (.lst (cs.map .int)), .dat (.int first), .dat (.tup (ns.map nmD))] [] = some (.dat (pD P), []) ∧ P.ns = ns ∧ PlDr P := by
  have hG := gs_all (cs := cs) (ns := ns) hcs hl3 hl1 3 d 1 (by decide)
  obtain ⟨b, q, e1, okb, cb, db⟩ := wh_plan (d := d + 3 * 3 + 7) hG (some (.dat (.int first))) 24 (q := ⟨0, 24, 2, 2, 1, 2⟩) (bs := []) (Nat.le_refl _) (by simp)
  obtain ⟨pa, pb, e2, hp⟩ := c_purse (d + 15) hf
  obtain ⟨m, a2, b2, e3, hp2, l2, u2⟩ := c_take (d + 15) (m := 3) hp (by decide) (bd_lit (n := 20) |>.mono (by decide))
  obtain ⟨rs, a3, b3, e4, hp3, hrs, hlen⟩ := comp_rows (C := call PG (d + 16)) (D0 := d + 12) rfl hl3 (i := 5) (j := 2) (v := 7) (l := 2) (env := [some (.dat (.lst (cs.map .int))), some (.dat (.int first)), some (.dat (.tup (ns.map nmD))), some (.ref 0), some (.ref 1), some (.ref 2), none, none]) rfl rfl (by decide) (by decide) (ds := rngL 0 m) (st := [.lst (stL cs q), .lst (bD b), pu a2 b2]) rfl hp2
  have hr0 : rngOk 0 m = true := rngOk_small (by decide) (by omega) (by omega) (by decide)
  obtain ⟨c1, c2, c3, c4, c5, c6⟩ := cb
  refine ⟨⟨ns, rs, b⟩, ?_, rfl, ⟨hrs, ?_, okb, ?_, ?_, ?_, ?_, ?_, db⟩⟩
  · rw [call_go F56 rfl rfl]
    simp only [List.nil_append, bD, stL] at e1 e4
    have e5 : ((2 : Nat) : Int) = 2 := rfl
    have e6 : ((24 : Nat) : Int) = 24 := rfl
    have e7 : ((1 : Nat) : Int) = 1 := rfl
    have e8 : ((0 : Nat) : Int) = 0 := rfl
    simp only [e5, e6, e7, e8] at e1
    simp [F56, startE, e1, e2, e3, hr0, e4, pD]
  all_goals dsimp only at c1 c2 c3 c4 c5 c6 ⊢
  · rw [hlen, rngL_len]; omega
  all_goals omega
theorem c_plan {first : Int} (hf : Bd 1050000 first) (hcs : ∀ c ∈ cs, Bd 1050000 c) (hn : NmOk ns) (d : Nat) : ∃ P : Pl, call PG (d + 17) 56 [.dat (.lst (cs.map .int)), .dat (.int first), .dat (.tup (ns.map nmD))] [] = some (.dat (pD P), []) ∧ P.ns = ns ∧ PlOk P := by
  obtain ⟨P, e, h1, h2⟩ := c_plan0 (cs := cs) (ns := ns) hf hcs (by have := hn.len; omega) hn.pos d
  obtain ⟨a1, a2, a3, a4, a5, a6, a7, a8, a9⟩ := h2
  exact ⟨P, e, h1, ⟨by rw [h1]; exact hn, a1, a2, a3, a4, a5, a6, a7, a8, a9⟩⟩
end
end NK
set_option Elab.async false
set_option linter.all false
set_option autoImplicit false
set_option maxRecDepth 100000
/-! LMust: places, and how a plan is looked through. -/
namespace NK
open PySem L2
theorem COMP_t {α : Type} {C : Calls} {elt c : E} {tg own : List Nat} {tup : Bool} {env : Env} {st : Sto} (g : α → D) (p : α → Bool) (f : α → D) : ∀ {L : List α}, (∀ a ∈ L, ∃ e1, bindT tg tup (g a) (wipeE env own) = some e1 ∧ evE C c e1 st = some (.dat (.bl (p a)), st) ∧ (p a = true → evE C elt e1 st = some (.dat (f a), st))) →
    COMP C elt tg tup (some c) own (L.map g) env st = some ((L.filter p).map f, st)
  | [], _ => rfl
  | d :: ds, h => by
    obtain ⟨e1, h1, h2, h3⟩ := h d List.mem_cons_self
    have ih := COMP_t g p f (L := ds) fun d hd => h d (List.mem_cons_of_mem _ hd)
    unfold COMP at ih ⊢
    rw [List.map_cons]
    simp only [compV, h1, evC, h2, ob_some]
    cases hp : p d with
    | false =>
      rw [List.filter_cons_of_neg (by simp [hp])]
      exact ih
    | true =>
      rw [List.filter_cons_of_pos hp, List.map_cons]
      simp only [boolR, ob_some, if_true, h3 hp, toD]
      show Option.map _ (compV own (wipeE env own) (fun d e => bindT tg tup d e) (fun e s => evC C (some c) e s) (fun e s => evE C elt e s) (ds.map g) st) = _
      rw [ih]; rfl
theorem COMP_tm {α : Type} {C : Calls} {elt : E} {tg own : List Nat} {tup : Bool} {env : Env} {st : Sto} (g : α → D) (f : α → D) {L : List α} (h : ∀ a ∈ L, ∃ e1, bindT tg tup (g a) (wipeE env own) = some e1 ∧ evE C elt e1 st = some (.dat (f a), st)) :
    COMP C elt tg tup none own (L.map g) env st = some (L.map f, st) := by
  induction L with
  | nil => rfl
  | cons d ds ih =>
    obtain ⟨e1, h1, h3⟩ := h d List.mem_cons_self
    have ih := ih fun d hd => h d (List.mem_cons_of_mem _ hd)
    unfold COMP at ih ⊢
    rw [List.map_cons]
    simp only [compV, h1, evC, ob_some, if_true, h3, toD]
    show Option.map _ (compV own (wipeE env own) (fun d e => bindT tg tup d e) (fun e s => evC C none e s) (fun e s => evE C elt e s) (ds.map g) st) = _
    rw [ih]; rfl
/-! ### places -/
def plcD (p : List Nat) : D := .tup (p.map fun (n : Nat) => D.int (n : Int))
mutual
def plS (p : List Nat) : Stm → List (List Nat × Stm)
  | .set _ _ => []
  | .any _ => []
  | .note _ => []
  | .cho a b => plB (p ++ [0]) 0 a ++ plB (p ++ [1]) 0 b
  | .ite _ a b => plB (p ++ [0]) 0 a ++ plB (p ++ [1]) 0 b
  | .whl _ _ _ b => plB (p ++ [0]) 0 b
def plB (p : List Nat) (k : Nat) : List Stm → List (List Nat × Stm)
  | [] => []
  | s :: b => (p ++ [k], s) :: (plS (p ++ [k]) s ++ plB p (k + 1) b)
end
def prD (q : List Nat × Stm) : D := .tup [plcD q.1, sD q.2]
def blks : Stm → List (List Stm)
  | .cho a b => [a, b]
  | .ite _ a b => [a, b]
  | .whl _ _ _ b => [b]
  | _ => []
def word : Stm → W
  | .set _ _ => wSet
  | .any _ => wAny
  | .note _ => wNote
  | .cho _ _ => wCho
  | .ite _ _ _ => wIf
  | .whl _ _ _ _ => wWhl
@[simp] theorem at_sD {s : Stm} : ∃ r, sD s = .tup (.str (word s) :: r) := by cases s <;> exact ⟨_, by simp only [sD, word]; rfl⟩
theorem c_blocks (d : Nat) (s : Stm) : call PG (d + 1) 59 [.dat (sD s)] [] = some (.dat (.lst ((blks s).map fun b => .tup (bD b))), []) := by
  rw [call_go F59 rfl rfl]
  cases s <;> simp [F59, startE, sD, blks]
theorem plS_blks {p : List Nat} {s : Stm} : plS p s = ((blks s).zipIdx).flatMap fun x => plB (p ++ [x.2]) 0 x.1 := by
  cases s <;> simp [plS, blks]
mutual
theorem plS_len (p : List Nat) : ∀ s : Stm, (plS p s).length + 1 = cntS w1 s
  | .set _ _ => by simp [plS, cntS, w1]
  | .any _ => by simp [plS, cntS, w1]
  | .note _ => by simp [plS, cntS, w1]
  | .cho a b => by simp only [plS, cntS, w1, List.length_append, plB_len _ 0 a, plB_len _ 0 b]; omega
  | .ite _ a b => by simp only [plS, cntS, w1, List.length_append, plB_len _ 0 a, plB_len _ 0 b]; omega
  | .whl _ _ _ b => by simp only [plS, cntS, w1, plB_len _ 0 b]; omega
theorem plB_len (p : List Nat) : ∀ (k : Nat) (b : List Stm), (plB p k b).length = cntB w1 b
  | k, [] => by simp [plB, cntB]
  | k, s :: b => by
    have h1 := plS_len (p ++ [k]) s
    have h2 := plB_len p (k + 1) b
    simp only [plB, cntB, List.length_cons, List.length_append]
    omega
end
@[simp] theorem add_tup {a b : List D} {st : Sto} : binV .add (.dat (.tup a)) (.dat (.tup b)) st = if a.length + b.length ≤ LIM then some (.dat (.tup (a ++ b))) else none := rfl
theorem plcD_app {p : List Nat} {k : Nat} (hp : p.length ≤ 1000) {st : Sto} : binV .add (.dat (plcD p)) (.dat (.tup [.int (k : Int)])) st = some (.dat (plcD (p ++ [k]))) := by
  unfold plcD
  rw [add_tup, if_pos (by simp; unfold LIM; omega)]
  simp
theorem ext_v {l : Nat} {st : Sto} {ds es : List D} (h : st[l]? = some (.lst ds)) (hl : ds.length + es.length ≤ LIM) : extV l (.dat (.lst es)) st = some (st.set l (.lst (ds ++ es))) := by
  simp [extV, h, hl]
/-- what a call of placed tells -/
def PlAt (D0 m : Nat) (x : List Stm) : Prop := ∀ p : List Nat, p.length + 2 * m ≤ 500 → call PG D0 60 [.dat (.tup (bD x)), .dat (plcD p)] [] = some (.own (.lst ((plB p 0 x).map prD)), [])
theorem for_inner {D0 m : Nat} (x0 x1 x3 x4 : Option Val) {p : List Nat} (hp : p.length + 1 + 2 * m ≤ 500) : ∀ {bs : List (List Stm)} {k : Nat} {L : List D} {x6 x7 : Option Val}, (∀ x ∈ bs, PlAt D0 m x) → L.length + (bs.map (cntB w1)).sum ≤ 10000 →
    ∃ y6 y7, FOR (call PG D0) [6, 7] true F60b1 (enumL k (bs.map fun b => .tup (bD b))) [x0, x1, some (.ref 0), x3, x4, some (.dat (plcD p)), x6, x7] [.lst L] = some (.nx [x0, x1, some (.ref 0), x3, x4, some (.dat (plcD p)), y6, y7] [.lst (L ++ ((bs.zipIdx k).flatMap fun x => plB (p ++ [x.2]) 0 x.1).map prD)])
  | [], k, L, x6, x7, _, _ => ⟨x6, x7, by simp [FOR, forV, enumL]⟩
  | b :: bs, k, L, x6, x7, h, hl => by
    have hb := h b List.mem_cons_self (p ++ [k]) (by simp; omega)
    simp only [List.map_cons, List.sum_cons] at hl
    obtain ⟨y6, y7, ih⟩ := for_inner x0 x1 x3 x4 hp (bs := bs) (k := k + 1) (L := L ++ (plB (p ++ [k]) 0 b).map prD) (x6 := some (.dat (.int k))) (x7 := some (.dat (.tup (bD b)))) (fun x hx => h x (List.mem_cons_of_mem _ hx)) (by
      rw [List.length_append, List.length_map, plB_len]; omega)
    refine ⟨y6, y7, ?_⟩
    simp only [List.map_cons, enumL]
    rw [FOR_cons]
    have hx := ext_v (st := [.lst L]) (l := 0) (ds := L) (es := (plB (p ++ [k]) 0 b).map prD) rfl (by rw [List.length_map, plB_len]; unfold LIM; omega)
    have hpp := plcD_app (p := p) (k := k) (by omega) (st := [.lst L])
    simp only [List.zipIdx_cons, List.flatMap_cons, List.map_append, ← List.append_assoc]
    rw [← ih]
    simp [F60b1, hpp, hb, hx]
theorem for_placed {D0 m : Nat} (x0 : Option Val) {p : List Nat} (hp : p.length + 2 + 2 * m ≤ 500) : ∀ {b : List Stm} {k : Nat} {L : List D} {x3 x4 x5 x6 x7 : Option Val}, (∀ s ∈ b, ∀ x ∈ blks s, PlAt (D0 + 1) m x) → L.length + cntB w1 b ≤ 10000 →
    ∃ y3 y4 y5 y6 y7, FOR (call PG (D0 + 1)) [3, 4] true F60b0 (enumL k (bD b)) [x0, some (.dat (plcD p)), some (.ref 0), x3, x4, x5, x6, x7] [.lst L] = some (.nx [x0, some (.dat (plcD p)), some (.ref 0), y3, y4, y5, y6, y7] [.lst (L ++ (plB p k b).map prD)])
  | [], k, L, x3, x4, x5, x6, x7, _, _ => ⟨x3, x4, x5, x6, x7, by simp [FOR, forV, enumL, bD, plB]⟩
  | s :: b, k, L, x3, x4, x5, x6, x7, h, hl => by
    simp only [cntB] at hl
    have hsum : ((blks s).map (cntB w1)).sum + 1 = cntS w1 s := by cases s <;> simp [blks, cntS, w1] <;> omega
    obtain ⟨z6, z7, hin⟩ := for_inner (D0 := D0 + 1) x0 (some (.dat (plcD p))) (some (.dat (.int k))) (some (.dat (sD s))) (p := p ++ [k]) (by simp; omega) (bs := blks s) (k := 0) (L := L ++ [prD (p ++ [k], s)]) (x6 := x6) (x7 := x7) (h s List.mem_cons_self) (by simp; omega)
    obtain ⟨y3, y4, y5, y6, y7, ih⟩ := for_placed x0 hp (b := b) (k := k + 1) (L := L ++ [prD (p ++ [k], s)] ++ (plS (p ++ [k]) s).map prD) (x3 := some (.dat (.int k))) (x4 := some (.dat (sD s))) (x5 := some (.dat (plcD (p ++ [k])))) (x6 := z6) (x7 := z7) (fun x hx => h x (List.mem_cons_of_mem _ hx)) (by
      have := plS_len (p ++ [k]) s
      simp only [List.length_append, List.length_map, List.length_singleton]; omega)
    refine ⟨y3, y4, y5, y6, y7, ?_⟩
    have e : L ++ (plB p k (s :: b)).map prD = L ++ [prD (p ++ [k], s)] ++ (plS (p ++ [k]) s).map prD ++ (plB p (k + 1) b).map prD := by simp [plB]
    rw [e, ← ih]
    rw [← plS_blks] at hin
    simp only [bD, enumL]
    rw [FOR_cons]
    have hpp := plcD_app (p := p) (k := k) (by omega) (st := [.lst L])
    have hlim : L.length < LIM := by unfold LIM; omega
    have hbk := c_blocks D0 s
    have e2 : D.tup [plcD (p ++ [k]), sD s] = prD (p ++ [k], s) := rfl
    simp [F60b0, hpp, hlim, hbk, e2, itQ, itLl, hin]
theorem blks_dep {s : Stm} {x : List Stm} (h : x ∈ blks s) : depB x + 1 ≤ depS s ∧ cntB w1 x ≤ cntS w1 s := by
  cases s <;> simp [blks] at h
  · rcases h with rfl | rfl <;> simp only [depS, cntS, w1] <;> omega
  · rcases h with rfl | rfl <;> simp only [depS, cntS, w1] <;> omega
  · subst h; simp only [depS, cntS, w1]; omega
theorem dep_mem {b : List Stm} {s : Stm} (h : s ∈ b) : depS s ≤ depB b ∧ cntS w1 s ≤ cntB w1 b := by
  induction b with
  | nil => cases h
  | cons t b ih =>
    simp only [depB, cntB]
    rcases List.mem_cons.mp h with rfl | h
    · omega
    · have := ih h; omega
theorem c_placed : ∀ (m d : Nat) {b : List Stm}, depB b ≤ m → cntB w1 b ≤ 9000 → PlAt (d + m + 2) m b
  | 0, d, b, hm, hc => fun p hp => by
    have hb : b = [] := by
      cases b with
      | nil => rfl
      | cons s b =>
        simp only [depB] at hm
        have : 1 ≤ depS s := by cases s <;> simp only [depS] <;> omega
        omega
    subst hb
    rw [call_go F60 rfl rfl]
    simp [F60, startE, bD, plB, itQ, enumL, FOR, forV, endV, fzO]
  | m + 1, d, b, hm, hc => fun p hp => by
    obtain ⟨y3, y4, y5, y6, y7, h⟩ := for_placed (D0 := d + m + 1) (m := m) (some (.dat (.tup (bD b)))) (p := p) (by omega) (b := b) (k := 0) (L := []) (x3 := none) (x4 := none) (x5 := none) (x6 := none) (x7 := none) (fun s hs x hx => by
      have h1 := blks_dep hx
      have h2 := dep_mem hs
      exact c_placed m d (by omega) (by omega)) (by simp; omega)
    rw [List.nil_append] at h
    rw [show d + (m + 1) + 2 = d + m + 1 + 1 + 1 by omega, call_go F60 rfl rfl]
    unfold plcD at h ⊢
    simp [F60, startE, itQ, h, endV, fzO]
end NK
set_option Elab.async false
set_option linter.all false
set_option autoImplicit false
set_option maxRecDepth 100000
/-! LMust2: a plan that is drawn is looked through well. -/
namespace NK
open PySem L2
/-! ### places in order -/
theorem plB_in {p q : List Nat} {s : Stm} : ∀ {b : List Stm} {k : Nat}, (q, s) ∈ plB p k b → ∃ j r, q = p ++ j :: r ∧ k ≤ j
  | [], k, h => by simp [plB] at h
  | t :: b, k, h => by
    simp only [plB, List.mem_cons, List.mem_append] at h
    rcases h with h | h | h
    · cases h
      exact ⟨k, [], rfl, Nat.le_refl _⟩
    · rw [plS_blks, List.mem_flatMap] at h
      obtain ⟨x, hx, h⟩ := h
      have hsz : sizeOf x.1 < sizeOf t := by
        have := List.mem_zipIdx hx
        have hm : x.1 ∈ blks t := by
          obtain ⟨_, _, e⟩ := this
          rw [e]; exact List.getElem_mem _
        cases t <;> simp [blks] at hm
        · rcases hm with e | e <;> rw [e] <;> simp <;> omega
        · rcases hm with e | e <;> rw [e] <;> simp <;> omega
        · rw [hm]; simp; omega
      obtain ⟨j, r, e, _⟩ := plB_in h
      exact ⟨k, x.2 :: j :: r, by rw [e]; simp, Nat.le_refl _⟩
    · obtain ⟨j, r, e, hj⟩ := plB_in h
      exact ⟨j, r, e, by omega⟩
termination_by b => sizeOf b
/-- Python's order of places -/
def ltP : List Nat → List Nat → Bool
  | _, [] => false
  | [], _ :: _ => true
  | a :: r, b :: t => decide (a < b) || (a == b && ltP r t)
theorem ltP_pre {p q r : List Nat} : ltP (p ++ q) (p ++ r) = ltP q r := by
  induction p with
  | nil => rfl
  | cons a p ih => simp [ltP, ih]
theorem ltP_self : ∀ p : List Nat, ltP p p = false
  | [] => rfl
  | a :: p => by simp [ltP, ltP_self p]
theorem ltP_lt {a b : Nat} {q r : List Nat} (h : a < b) : ltP (a :: q) (b :: r) = true := by simp [ltP, h]
theorem blks_sz {t : Stm} {x : List Stm × Nat} {k : Nat} (h : x ∈ (blks t).zipIdx k) : sizeOf x.1 < sizeOf t := by
  have hm : x.1 ∈ blks t := by
    obtain ⟨_, _, e⟩ := List.mem_zipIdx h
    rw [e]; exact List.getElem_mem _
  cases t <;> simp [blks] at hm
  · rcases hm with e | e <;> rw [e] <;> simp <;> omega
  · rcases hm with e | e <;> rw [e] <;> simp <;> omega
  · rw [hm]; simp; omega
mutual
theorem plS_asc (p : List Nat) : ∀ s : Stm, ((plS p s).map (·.1)).Pairwise (fun a b => ltP a b = true)
  | .set _ _ => by simp [plS]
  | .any _ => by simp [plS]
  | .note _ => by simp [plS]
  | .cho a b => by
    simp only [plS, List.map_append]
    rw [List.pairwise_append]
    refine ⟨plB_asc _ _ a, plB_asc _ _ b, fun x hx y hy => ?_⟩
    obtain ⟨⟨x', sx⟩, hx1, rfl⟩ := List.mem_map.mp hx
    obtain ⟨⟨y', sy⟩, hy1, rfl⟩ := List.mem_map.mp hy
    obtain ⟨j, r, e, _⟩ := plB_in hx1
    obtain ⟨j', r', e', _⟩ := plB_in hy1
    dsimp only
    rw [e, e', List.append_assoc, List.append_assoc, ltP_pre]
    exact ltP_lt (by decide)
  | .ite _ a b => by
    simp only [plS, List.map_append]
    rw [List.pairwise_append]
    refine ⟨plB_asc _ _ a, plB_asc _ _ b, fun x hx y hy => ?_⟩
    obtain ⟨⟨x', sx⟩, hx1, rfl⟩ := List.mem_map.mp hx
    obtain ⟨⟨y', sy⟩, hy1, rfl⟩ := List.mem_map.mp hy
    obtain ⟨j, r, e, _⟩ := plB_in hx1
    obtain ⟨j', r', e', _⟩ := plB_in hy1
    dsimp only
    rw [e, e', List.append_assoc, List.append_assoc, ltP_pre]
    exact ltP_lt (by decide)
  | .whl _ _ _ b => by simp only [plS]; exact plB_asc _ _ b
theorem plB_asc (p : List Nat) : ∀ (k : Nat) (b : List Stm), ((plB p k b).map (·.1)).Pairwise (fun a b => ltP a b = true)
  | k, [] => by simp [plB]
  | k, s :: b => by
    simp only [plB, List.map_cons, List.map_append]
    rw [List.pairwise_cons]
    have hin : ∀ x ∈ (plS (p ++ [k]) s).map (·.1), ∃ i r, x = p ++ k :: i :: r := fun x hx => by
      obtain ⟨⟨x', sx⟩, hx1, rfl⟩ := List.mem_map.mp hx
      rw [plS_blks, List.mem_flatMap] at hx1
      obtain ⟨y, hy, h⟩ := hx1
      obtain ⟨j, r, e, _⟩ := plB_in h
      exact ⟨y.2, j :: r, by dsimp only; rw [e]; simp⟩
    have hout : ∀ x ∈ (plB p (k + 1) b).map (·.1), ∃ j r, x = p ++ j :: r ∧ k < j := fun x hx => by
      obtain ⟨⟨x', sx⟩, hx1, rfl⟩ := List.mem_map.mp hx
      obtain ⟨j, r, e, hj⟩ := plB_in hx1
      exact ⟨j, r, e, by omega⟩
    refine ⟨fun x hx => ?_, ?_⟩
    · rcases List.mem_append.mp hx with hx | hx
      · obtain ⟨i, r, rfl⟩ := hin x hx
        rw [ltP_pre]
        simp [ltP]
      · obtain ⟨j, r, rfl, hj⟩ := hout x hx
        rw [ltP_pre]
        exact ltP_lt hj
    · rw [List.pairwise_append]
      refine ⟨plS_asc _ s, plB_asc p (k + 1) b, fun x hx y hy => ?_⟩
      obtain ⟨i, r, rfl⟩ := hin x hx
      obtain ⟨j, r', rfl, hj⟩ := hout y hy
      rw [ltP_pre]
      exact ltP_lt hj
end
/-! ### what is counted -/
mutual
theorem cntS_pl (w : Stm → Nat) (p : List Nat) : ∀ s : Stm, cntS w s = w s + ((plS p s).map fun q => w q.2).sum
  | .set _ _ => by simp [plS, cntS]
  | .any _ => by simp [plS, cntS]
  | .note _ => by simp [plS, cntS]
  | .cho a b => by simp only [plS, cntS, List.map_append, List.sum_append]; rw [cntB_pl w (p ++ [0]) 0 a, cntB_pl w (p ++ [1]) 0 b]
  | .ite _ a b => by simp only [plS, cntS, List.map_append, List.sum_append]; rw [cntB_pl w (p ++ [0]) 0 a, cntB_pl w (p ++ [1]) 0 b]
  | .whl _ _ _ b => by simp only [plS, cntS]; rw [cntB_pl w (p ++ [0]) 0 b]
theorem cntB_pl (w : Stm → Nat) (p : List Nat) : ∀ (k : Nat) (b : List Stm), cntB w b = ((plB p k b).map fun q => w q.2).sum
  | k, [] => by simp [plB, cntB]
  | k, s :: b => by
    simp only [plB, cntB, List.map_cons, List.map_append, List.sum_cons, List.sum_append]
    rw [cntS_pl w (p ++ [k]) s, cntB_pl w p (k + 1) b]
    omega
end
theorem filter_sum {α : Type} {p : α → Bool} {w : α → Nat} (h : ∀ a, w a = if p a then 1 else 0) : ∀ L : List α, (L.filter p).length = (L.map w).sum
  | [] => rfl
  | a :: L => by
    have ih := filter_sum h L
    have ha := h a
    cases hp : p a
    · rw [List.filter_cons_of_neg (by simp [hp])]
      simp [hp] at ha
      simp [ha, ih]
    · rw [List.filter_cons_of_pos hp]
      simp [hp] at ha
      simp [ha, ih]; omega
mutual
theorem plS_dep (p q : List Nat) (t : Stm) : ∀ s : Stm, (q, t) ∈ plS p s → q.length + 2 ≤ p.length + 2 * depS s
  | .set _ _, h => by simp [plS] at h
  | .any _, h => by simp [plS] at h
  | .note _, h => by simp [plS] at h
  | .cho a b, h => by
    simp only [plS, List.mem_append] at h
    simp only [depS]
    rcases h with h | h
    · have := plB_dep (p ++ [0]) q t 0 a h; simp at this; omega
    · have := plB_dep (p ++ [1]) q t 0 b h; simp at this; omega
  | .ite _ a b, h => by
    simp only [plS, List.mem_append] at h
    simp only [depS]
    rcases h with h | h
    · have := plB_dep (p ++ [0]) q t 0 a h; simp at this; omega
    · have := plB_dep (p ++ [1]) q t 0 b h; simp at this; omega
  | .whl _ _ _ b, h => by
    simp only [plS] at h
    simp only [depS]
    have := plB_dep (p ++ [0]) q t 0 b h; simp at this; omega
theorem plB_dep (p q : List Nat) (t : Stm) : ∀ (k : Nat) (b : List Stm), (q, t) ∈ plB p k b → q.length + 1 ≤ p.length + 2 * depB b
  | k, [], h => by simp [plB] at h
  | k, s :: b, h => by
    simp only [plB, List.mem_cons, List.mem_append] at h
    simp only [depB]
    have h1 : 1 ≤ depS s := by cases s <;> simp only [depS] <;> omega
    rcases h with h | h | h
    · cases h; simp; omega
    · have := plS_dep (p ++ [k]) q t s h; simp at this; omega
    · have := plB_dep p q t (k + 1) b h; omega
end
mutual
theorem plS_ok {ns : List Nat} (p q : List Nat) (t : Stm) : ∀ s : Stm, okS ns s → (q, t) ∈ plS p s → okS ns t
  | .set _ _, _, h => by simp [plS] at h
  | .any _, _, h => by simp [plS] at h
  | .note _, _, h => by simp [plS] at h
  | .cho a b, ok, h => by
    simp only [plS, List.mem_append] at h
    simp only [okS] at ok
    rcases h with h | h
    · exact plB_ok _ q t 0 a ok.1 h
    · exact plB_ok _ q t 0 b ok.2 h
  | .ite _ a b, ok, h => by
    simp only [plS, List.mem_append] at h
    simp only [okS] at ok
    rcases h with h | h
    · exact plB_ok _ q t 0 a ok.2.1 h
    · exact plB_ok _ q t 0 b ok.2.2 h
  | .whl _ _ _ b, ok, h => by
    simp only [plS] at h
    simp only [okS] at ok
    exact plB_ok _ q t 0 b ok.2.2.2.2 h
theorem plB_ok {ns : List Nat} (p q : List Nat) (t : Stm) : ∀ (k : Nat) (b : List Stm), okB ns b → (q, t) ∈ plB p k b → okS ns t
  | k, [], _, h => by simp [plB] at h
  | k, s :: b, ok, h => by
    simp only [plB, List.mem_cons, List.mem_append] at h
    simp only [okB] at ok
    rcases h with h | h | h
    · cases h; exact ok.1
    · exact plS_ok _ q t s ok.1 h
    · exact plB_ok p q t (k + 1) b ok.2 h
end
/-! ### the program's own -/
@[simp] theorem idx_word {s : Stm} {st : Sto} : idxV (.dat (sD s)) (.dat (.int 0)) st = some (.str (word s)) := by
  cases s <;> simp [sD, word]
theorem any_words {w : W} : ∀ ws : List W, ((ws.map D.str).any fun d => eqD d (.str w)) = decide (w ∈ ws)
  | [] => rfl
  | x :: ws => by
    rw [List.map_cons, List.any_cons, any_words ws]
    simp only [eqD]
    by_cases h : x = w
    · subst h; simp
    · have h' : w ≠ x := fun e => h e.symm
      simp [h, h']
theorem nods_str : ∀ ws : List W, nods (ws.map D.str) = true
  | [] => rfl
  | x :: ws => by simp [nods, nod, nods_str ws]
theorem in_wordsL {w : W} {ws : List W} {st : Sto} : cmpV .inn (.dat (.str w)) (.dat (.lst (ws.map .str))) st = some (decide (w ∈ ws)) := by
  have h : (nod (.str w) && nods (ws.map D.str) && decide (dep (.str w) ≤ 150)) = true := by simp [nod, nods_str, dep]
  show (if (nod (.str w) && nods (ws.map D.str) && decide (dep (.str w) ≤ 150)) = true then some ((ws.map D.str).any fun d => eqD d (.str w)) else none) = _
  rw [if_pos h, any_words]
theorem in_wordsT {w : W} {ws : List W} {st : Sto} : cmpV .inn (.dat (.str w)) (.dat (.tup (ws.map .str))) st = some (decide (w ∈ ws)) := by
  have h : (nod (.str w) && nods (ws.map D.str) && decide (dep (.str w) ≤ 150)) = true := by simp [nod, nods_str, dep]
  show (if (nod (.str w) && nods (ws.map D.str) && decide (dep (.str w) ≤ 150)) = true then some ((ws.map D.str).any fun d => eqD d (.str w)) else none) = _
  rw [if_pos h, any_words]
theorem notin_names {x : Nat} {ns : List Nat} {st : Sto} : cmpV .notin (.dat (nmD x)) (.dat (.tup (ns.map nmD))) st = some (!decide (x ∈ ns)) := by
  have e : ns.map nmD = (ns.map fun c => [c]).map D.str := by rw [List.map_map]; rfl
  have h : (([x] : W) ∈ ns.map fun c => [c]) ↔ x ∈ ns := by simp
  rw [e]
  show (cmpV .inn (.dat (.str [x])) (.dat (.tup ((ns.map fun c => [c]).map D.str))) st).map (!·) = _
  rw [in_wordsT]
  simp [h]
theorem c_few (d : Nat) {n m : Int} (h : n ≤ m) : call PG (d + 1) 61 [.dat (.int n), .dat (.int m)] [] = some (.dat .non, []) := by
  have : ¬ m < n := by omega
  rw [call_go F61 rfl rfl]
  simp [F61, startE, this]
theorem c_counted (d : Nat) (L : List (List Nat × Stm)) (ws : List W) : call PG (d + 1) 62 [.dat (.lst (L.map prD)), .dat (.lst (ws.map .str))] [] = some (.dat (.int ((L.filter fun q => decide (word q.2 ∈ ws)).length : Nat)), []) := by
  have h := COMP_t (C := call PG d) (elt := .var 3) (c := .cmp .inn (.idx (.var 3) (.int 0)) (.var 1)) (tg := [2, 3]) (own := [2, 3]) (tup := true) (env := [some (.dat (.lst (L.map prD))), some (.dat (.lst (ws.map .str))), none, none]) (st := []) prD (fun q => decide (word q.2 ∈ ws)) (fun q => sD q.2) (L := L) fun q _ => ⟨_, rfl, by simp [in_wordsL, wipeE], fun _ => by simp [wipeE]⟩
  rw [call_go F62 rfl rfl]
  simp [F62, startE, h]
theorem c_noted (C : Calls) (L : List (List Nat × Stm)) (x0 : Option Val) : COMP C (.bi .len [(.idx (.var 3) (.int 1))]) [2, 3] true (some (.cmp .eq (.idx (.var 3) (.int 0)) (.str [110, 111, 116, 101]))) [2, 3] (L.map prD) [x0, some (.dat (.lst (L.map prD))), none, none] [] = some (((L.filter fun q => decide (word q.2 = wNote)).map fun q => wNt q.2).map fun (n : Nat) => D.int n, []) := by
  rw [List.map_map]
  refine COMP_t prD (fun q => decide (word q.2 = wNote)) (fun q => D.int (wNt q.2 : Nat)) fun q _ => ⟨_, rfl, ?_, fun h => ?_⟩
  · simp [wipeE, wNote]; rw [Bool.eq_iff_iff]; simp
  · obtain ⟨p, s⟩ := q
    cases s <;> simp [word, wNote, wSet, wAny, wCho, wIf, wWhl] at h
    simp [wipeE, sD, wNt]
@[simp] theorem bi_sum {ds : List D} {st : Sto} : biV .sum [.dat (.lst ds)] st = (intsD ds).map fun ns => .int ns.sum := nr rfl
theorem intsD_nat : ∀ L : List Nat, intsD (L.map fun (n : Nat) => D.int n) = some (L.map fun (n : Nat) => (n : Int))
  | [] => rfl
  | n :: L => by simp [intsD, intsD_nat L]
theorem sum_nat : ∀ L : List Nat, (L.map fun (n : Nat) => (n : Int)).sum = (L.sum : Nat)
  | [] => rfl
  | n :: L => by simp [sum_nat L]
theorem maxOf_le {B : Int} (h0 : 0 ≤ B) : ∀ {L : List Int}, (∀ x ∈ L, x ≤ B) → (maxOf L).getD 0 ≤ B
  | [], _ => h0
  | [x], h => by simpa [maxOf] using h x (by simp)
  | x :: y :: L, h => by
    have ih := maxOf_le h0 (L := y :: L) fun z hz => h z (List.mem_cons_of_mem _ hz)
    have hx := h x List.mem_cons_self
    simp only [maxOf] at ih ⊢
    cases hm : maxOf (y :: L) with
    | none => simp [h0]
    | some m =>
      rw [hm] at ih
      simp only [Option.getD_some] at ih
      simp only [Option.map_some, Option.getD_some]
      split <;> assumption
theorem COMP_dep (C : Calls) (L : List (List Nat × Stm)) (x0 : Option Val) : COMP C (.bin .add (.bin .fdiv (.bi .len [(.var 2)]) (.int 2)) (.int 1)) [2, 3] true none [2, 3] (L.map prD) [x0, some (.dat (.lst (L.map prD))), none, none] [] = some ((L.map fun q => q.1.length / 2 + 1).map fun (n : Nat) => D.int n, []) := by
  rw [List.map_map]
  have h2 : okDiv 2 = true := by decide
  refine COMP_tm prD (fun q => D.int (q.1.length / 2 + 1 : Nat)) fun q _ => ⟨_, rfl, ?_⟩
  have : ((q.1.length : Int).fdiv 2) = ((q.1.length / 2 : Nat) : Int) := by rw [Int.fdiv_eq_ediv_of_nonneg _ (by decide)]; omega
  simp [wipeE, plcD, h2, this]
/-- the bounds are kept -/
structure FewOk (ns : List Nat) (b : List Stm) : Prop where
  nm : ns.length ≤ 3
  n : cntB w1 b ≤ 24
  br : cntB wBr b ≤ 2
  lp : cntB wLp b ≤ 2
  an : cntB wAn b ≤ 1
  nt : cntB wNt b ≤ 2
  dp : depB b ≤ 4
theorem few_cnt {b : List Stm} {ws : List W} {w : Stm → Nat} (h : ∀ s, w s = if decide (word s ∈ ws) then 1 else 0) : ((plB [] 0 b).filter fun q => decide (word q.2 ∈ ws)).length = cntB w b := by
  rw [cntB_pl w [] 0 b]
  exact filter_sum (fun q => h q.2) _
theorem few_note (L : List (List Nat × Stm)) : ((L.filter fun q => decide (word q.2 = wNote)).map fun q => wNt q.2).sum = (L.map fun q => wNt q.2).sum := by
  induction L with
  | nil => rfl
  | cons q L ih =>
    obtain ⟨p, s⟩ := q
    cases s <;> simp [List.filter_cons, word, wNote, wSet, wAny, wCho, wIf, wWhl, wNt] <;> exact ih
theorem c_bounds (d : Nat) {ns : List Nat} {b : List Stm} (h : FewOk ns b) : call PG (d + 3) 63 [.dat (.tup (ns.map nmD)), .dat (.lst ((plB [] 0 b).map prD))] [] = some (.dat .non, []) := by
  have k1 := c_few (d + 1) (n := ns.length) (m := 3) (by have := h.nm; omega)
  have k2 := c_few (d + 1) (n := (plB [] 0 b).length) (m := 24) (by have := h.n; rw [plB_len]; omega)
  have k3 := c_few (d + 1) (n := (maxOf ((plB [] 0 b).map fun q => ((q.1.length / 2 + 1 : Nat) : Int))).getD 0) (m := 4) (maxOf_le (by decide) fun x hx => by
    obtain ⟨q, hq, rfl⟩ := List.mem_map.mp hx
    have := plB_dep [] q.1 q.2 0 b hq
    have := h.dp
    simp at *
    omega)
  have g4 := few_cnt (b := b) (ws := [wCho, wIf]) (w := wBr) fun s => by cases s <;> simp [wBr, word, wCho, wIf, wSet, wAny, wNote, wWhl]
  have g5 := few_cnt (b := b) (ws := [wWhl]) (w := wLp) fun s => by cases s <;> simp [wLp, word, wCho, wIf, wSet, wAny, wNote, wWhl]
  have g6 := few_cnt (b := b) (ws := [wAny]) (w := wAn) fun s => by cases s <;> simp [wAn, word, wCho, wIf, wSet, wAny, wNote, wWhl]
  have e4 := c_counted (d + 1) (plB [] 0 b) [wCho, wIf]
  have e5 := c_counted (d + 1) (plB [] 0 b) [wWhl]
  have e6 := c_counted (d + 1) (plB [] 0 b) [wAny]
  rw [g4] at e4
  rw [g5] at e5
  rw [g6] at e6
  have k4 := c_few (d + 1) (n := cntB wBr b) (m := 2) (by have := h.br; omega)
  have k5 := c_few (d + 1) (n := cntB wLp b) (m := 2) (by have := h.lp; omega)
  have k6 := c_few (d + 1) (n := cntB wAn b) (m := 1) (by have := h.an; omega)
  have k7 := c_few (d + 1) (n := ((cntB wNt b : Nat) : Int)) (m := 2) (by have := h.nt; omega)
  have e3 := COMP_dep (call PG (d + 2)) (plB [] 0 b) (some (.dat (.tup (ns.map nmD))))
  have e7 := c_noted (call PG (d + 2)) (plB [] 0 b) (some (.dat (.tup (ns.map nmD))))
  have i3 := intsD_nat ((plB [] 0 b).map fun q => q.1.length / 2 + 1)
  have i7 := intsD_nat (((plB [] 0 b).filter fun q => decide (word q.2 = wNote)).map fun q => wNt q.2)
  have s7 : (((((plB [] 0 b).filter fun q => decide (word q.2 = wNote)).map fun q => wNt q.2)).map fun (n : Nat) => (n : Int)).sum = (cntB wNt b : Nat) := by rw [sum_nat, few_note, ← cntB_pl wNt [] 0 b]
  have k3' : call PG (d + 2) 61 [.dat (.int ((maxOf (((plB [] 0 b).map fun q => q.1.length / 2 + 1).map fun (n : Nat) => (n : Int))).getD 0)), .dat (.int 4)] [] = some (.dat .non, []) := by rw [List.map_map]; exact k3
  generalize ((plB [] 0 b).map fun q => q.1.length / 2 + 1) = L3 at *
  generalize (((plB [] 0 b).filter fun q => decide (word q.2 = wNote)).map fun q => wNt q.2) = L7 at *
  simp only [List.map_cons, List.map_nil] at e4 e5 e6
  rw [call_go F63 rfl rfl]
  simp [F63, startE, k1, k2, e3, i3, k3', e4, k4, e5, k5, e6, k6, e7, i7, s7, k7]
theorem for_have (C : Calls) {ns : List Nat} (x0 : Option Val) : ∀ {xs : List Nat} {x2 : Option Val}, (∀ x ∈ xs, x ∈ ns) → ∃ y2, FOR C [2] false F64b0 (xs.map nmD) [x0, some (.dat (.tup (ns.map nmD))), x2] [] = some (.nx [x0, some (.dat (.tup (ns.map nmD))), y2] [])
  | [], x2, _ => ⟨x2, rfl⟩
  | x :: xs, x2, h => by
    obtain ⟨y2, ih⟩ := for_have C x0 (xs := xs) (x2 := some (.dat (nmD x))) fun y hy => h y (List.mem_cons_of_mem _ hy)
    refine ⟨y2, ?_⟩
    have hx := h x List.mem_cons_self
    rw [List.map_cons, FOR_cons, ← ih]
    simp [F64b0, notin_names, hx]
theorem c_have (d : Nat) {ns xs : List Nat} (h : ∀ x ∈ xs, x ∈ ns) : call PG (d + 1) 64 [.dat (.lst (xs.map nmD)), .dat (.tup (ns.map nmD))] [] = some (.dat .non, []) := by
  obtain ⟨y2, e⟩ := for_have (call PG d) (ns := ns) (some (.dat (.lst (xs.map nmD)))) (xs := xs) (x2 := none) h
  rw [call_go F64 rfl rfl]
  simp [F64, startE, e]
/-- the names of rows -/
def rNs (rs : List Row) : List Nat := rs.flatMap fun r => r.2.1.map (·.1)
theorem comp_nm (C : Calls) {env : Env} {a b : Nat} (hab : a ≠ b) (hl : env[a]? ≠ none) (hl2 : env[b]? ≠ none) (ts : List (Nat × Int)) (st : Sto) : COMP C (.var a) [a, b] true none [a, b] (ts.map tmD) env st = some ((ts.map (·.1)).map nmD, st) := by
  rw [List.map_map]
  refine COMP_tm tmD (fun t => nmD t.1) fun t _ => ⟨_, rfl, ?_⟩
  have h1 : a < env.length := by
    rcases Nat.lt_or_ge a env.length with h | h
    · exact h
    · exact absurd (List.getElem?_eq_none h) hl
  have : (((wipeE env [a, b]).set a (some (.dat (nmD t.1)))).set b (some (.dat (.int t.2))))[a]? = some (some (.dat (nmD t.1))) := by
    rw [List.getElem?_set_ne (Ne.symm hab), List.getElem?_set_self (by simp [wipeE, h1])]
  simp only [e_var, this]
theorem for_names (C : Calls) (x0 : Option Val) : ∀ {rs : List Row} {L : List Nat} {x2 x3 x4 : Option Val}, L.length + (rNs rs).length ≤ 10000 →
    ∃ y2, FOR C [2] false F65b0 (rs.map rD) [x0, some (.ref 0), x2, x3, x4] [.lst (L.map nmD)] = some (.nx [x0, some (.ref 0), y2, x3, x4] [.lst ((L ++ rNs rs).map nmD)])
  | [], L, x2, x3, x4, _ => ⟨x2, by simp [FOR, forV, rNs]⟩
  | r :: rs, L, x2, x3, x4, hl => by
    have e : rNs (r :: rs) = r.2.1.map (·.1) ++ rNs rs := rfl
    rw [e, List.length_append, List.length_map] at hl
    obtain ⟨y2, ih⟩ := for_names C x0 (rs := rs) (L := L ++ r.2.1.map (·.1)) (x2 := some (.dat (rD r))) (x3 := x3) (x4 := x4) (by simp; omega)
    refine ⟨y2, ?_⟩
    rw [e, ← List.append_assoc, ← ih, List.map_cons, FOR_cons]
    have hc := comp_nm C (a := 3) (b := 4) (env := [x0, some (.ref 0), some (.dat (rD r)), x3, x4]) (by decide) (by simp) (by simp) r.2.1 [.lst (L.map nmD)]
    have hx := ext_v (st := [.lst (L.map nmD)]) (l := 0) (ds := L.map nmD) (es := (r.2.1.map (·.1)).map nmD) rfl (by simp; unfold LIM; omega)
    have hi : rD r = .tup [.str (wd r.1), .tup (r.2.1.map tmD), .int r.2.2] := rfl
    rw [hi] at hc ⊢
    rw [List.map_append]
    simp [-List.map_map, F65b0, hc, hx]
theorem c_names65 (d : Nat) {rs : List Row} (h : (rNs rs).length ≤ 9000) {v : Val} (hv : itV v = some (rs.map rD)) (hs : ∃ D', v = .dat D') : call PG (d + 1) 65 [v] [] = some (.own (.lst ((rNs rs).map nmD)), []) := by
  obtain ⟨D', rfl⟩ := hs
  obtain ⟨y2, e⟩ := for_names (call PG d) (some (.dat D')) (rs := rs) (L := []) (x2 := none) (x3 := none) (x4 := none) (by simp; omega)
  rw [List.nil_append] at e
  simp only [List.map_nil] at e
  rw [call_go F65 rfl rfl]
  simp [F65, startE, hv, e, endV, fzO]
/-- the names of a statement without its blocks -/
def nmS : Stm → List Nat
  | .set x s => x :: s.ts.map (·.1)
  | .any x => [x]
  | .note rs => rNs rs
  | .cho _ _ => []
  | .ite r _ _ => rNs [r]
  | .whl r rs f _ => rNs [r] ++ rNs rs ++ (match f with | none => [] | some p => p.1.ts.map (·.1))
end NK
set_option Elab.async false
set_option linter.all false
set_option autoImplicit false
set_option maxRecDepth 100000
/-! LMust3: must_plan tells None of a plan that is drawn. -/
namespace NK
open PySem L2
/-- what a list is told as -/
def IsL (L : List D) (r : Ret) : Prop := r = .dat (.lst L) ∨ r = .own (.lst L)
theorem IsL.kept {L : List D} {r : Ret} (h : IsL L r) {st : Sto} : kept (r, st) = some (.dat (.lst L), st) := by
  rcases h with rfl | rfl <;> rfl
theorem TmDr.in {ts : List (Nat × Int)} {ns : List Nat} (h : TmDr ts ns) : ∀ x ∈ ts.map (·.1), x ∈ ns := fun x hx => h.sub.subset hx
theorem rNs_in {rs : List Row} {ns : List Nat} (h : ∀ r ∈ rs, RwDr ns r) : ∀ x ∈ rNs rs, x ∈ ns := fun x hx => by
  obtain ⟨r, hr, hx⟩ := List.mem_flatMap.mp hx
  exact (h r hr).ts.in x hx
theorem nmS_in {ns : List Nat} {s : Stm} (h : okS ns s) : ∀ x ∈ nmS s, x ∈ ns := fun x hx => by
  cases s with
  | set y t =>
    simp only [okS] at h
    simp only [nmS] at hx
    rcases List.mem_cons.mp hx with e | hx
    · exact e ▸ h.1
    · exact h.2.ts.in x hx
  | any y =>
    simp only [okS] at h
    simp only [nmS, List.mem_singleton] at hx
    exact hx ▸ h
  | note rs =>
    simp only [okS] at h
    exact rNs_in h x hx
  | cho a b => simp [nmS] at hx
  | ite r a b =>
    simp only [okS] at h
    exact rNs_in (rs := [r]) (fun q hq => by rw [List.mem_singleton.mp hq]; exact h.1) x hx
  | whl r rs f b =>
    simp only [okS] at h
    simp only [nmS] at hx
    rcases List.mem_append.mp hx with hx | hx
    · rcases List.mem_append.mp hx with hx | hx
      · exact rNs_in (rs := [r]) (fun q hq => by rw [List.mem_singleton.mp hq]; exact h.1) x hx
      · exact rNs_in h.2.1 x hx
    · cases f with
      | none => simp at hx
      | some p => exact (h.2.2.2.1 p rfl).1.ts.in x hx
theorem rNs_len {rs : List Row} {ns : List Nat} (hl : ns.length ≤ 10) (h : ∀ r ∈ rs, RwDr ns r) : (rNs rs).length ≤ 10 * rs.length := by
  induction rs with
  | nil => simp [rNs]
  | cons r rs ih =>
    have := ih fun q hq => h q (List.mem_cons_of_mem _ hq)
    have h1 := (h r List.mem_cons_self).ts.len
    have e : rNs (r :: rs) = r.2.1.map (·.1) ++ rNs rs := rfl
    rw [e, List.length_append, List.length_map, List.length_cons]
    omega
/-- rows that can be looked through -/
def fewS : Stm → Prop
  | .set _ s => s.ts.length ≤ 10
  | .note rs => (rNs rs).length ≤ 1000
  | .ite r _ _ => (rNs [r]).length ≤ 1000
  | .whl r rs f _ => (rNs [r]).length ≤ 1000 ∧ (rNs rs).length ≤ 1000 ∧ ∀ p, f = some p → p.1.ts.length ≤ 10
  | _ => True
theorem c_by (d : Nat) {s : Stm} (h : fewS s) : ∃ r, call PG (d + 2) 66 [.dat (sD s)] [] = some (r, []) ∧ IsL ((nmS s).map nmD) r := by
  cases s with
  | set x t =>
    simp only [fewS] at h
    have hc := comp_nm (call PG (d + 1)) (a := 3) (b := 4) (env := [some (.dat (sD (.set x t))), some (.dat (.str wSet)), none, none, none]) (by decide) (by simp) (by simp) t.ts []
    refine ⟨_, ?_, .inl rfl⟩
    have lim : 1 + t.ts.length ≤ LIM := by unfold LIM; omega
    simp only [sD, smD] at hc ⊢
    rw [call_go F66 rfl rfl]
    simp [-List.map_map, F66, startE, hc, nmS, lim, binV]
  | any x =>
    refine ⟨_, ?_, .inl rfl⟩
    rw [call_go F66 rfl rfl]
    simp [F66, startE, sD, nmS]
  | note rs =>
    simp only [fewS] at h
    have e := c_names65 d (rs := rs) (by omega) (v := .dat (.tup (rs.map rD))) rfl ⟨_, rfl⟩
    refine ⟨_, ?_, .inl rfl⟩
    rw [call_go F66 rfl rfl]
    simp [F66, startE, sD, nmS, e, fzO]
  | cho a b =>
    refine ⟨_, ?_, .inr rfl⟩
    rw [call_go F66 rfl rfl]
    simp [F66, F66i0, startE, sD, nmS, endV, fzO]
  | ite r a b =>
    simp only [fewS] at h
    have e := c_names65 d (rs := [r]) (by omega) (v := .dat (.lst [rD r])) rfl ⟨_, rfl⟩
    refine ⟨_, ?_, .inl rfl⟩
    rw [call_go F66 rfl rfl]
    simp [F66, startE, sD, nmS, e, fzO]
  | whl r rs f b =>
    simp only [fewS] at h
    have e1 := c_names65 d (rs := [r]) (by omega) (v := .dat (.lst [rD r])) rfl ⟨_, rfl⟩
    have e2 := c_names65 d (rs := rs) (by omega) (v := .dat (.tup (rs.map rD))) rfl ⟨_, rfl⟩
    refine ⟨_, ?_, .inr rfl⟩
    have lim : (rNs [r]).length + (rNs rs).length ≤ LIM := by unfold LIM; omega
    cases f with
    | none =>
      rw [call_go F66 rfl rfl]
      simp [-List.map_map, F66, F66i0, F66i1, startE, sD, nmS, e1, e2, fzO, feD, lim, endV]
    | some p =>
      have hp := h.2.2 p rfl
      have hc := comp_nm (call PG (d + 1)) (a := 3) (b := 4) (env := [some (.dat (sD (.whl r rs (some p) b))), some (.dat (.str wWhl)), some (.ref 1), none, none]) (by decide) (by simp) (by simp) p.1.ts [.lst [], .lst ((rNs [r] ++ rNs rs).map nmD)]
      have hx := ext_v (st := [.lst [], .lst ((rNs [r] ++ rNs rs).map nmD)]) (l := 1) (ds := (rNs [r] ++ rNs rs).map nmD) (es := (p.1.ts.map (·.1)).map nmD) rfl (by simp; unfold LIM; omega)
      simp only [sD, feD, smD, List.map_append] at hc hx ⊢
      rw [call_go F66 rfl rfl]
      simp [-List.map_map, F66, F66i0, F66i1, startE, nmS, e1, e2, fzO, lim, endV, hc, hx]
theorem okS_few {ns : List Nat} (hl : ns.length ≤ 10) {s : Stm} (h : okS ns s) (hn : cntS wNt s ≤ 2) : fewS s := by
  cases s with
  | set x t => simp only [okS] at h; simp only [fewS]; have := h.2.ts.len; omega
  | any x => exact trivial
  | note rs =>
    simp only [okS] at h
    simp only [cntS, wNt] at hn
    simp only [fewS]
    have := rNs_len hl h; omega
  | cho a b => exact trivial
  | ite r a b =>
    simp only [okS] at h
    simp only [fewS]
    have := rNs_len hl (rs := [r]) fun q hq => by rw [List.mem_singleton.mp hq]; exact h.1
    simp at this; omega
  | whl r rs f b =>
    simp only [okS] at h
    simp only [fewS]
    have h1 := rNs_len hl (rs := [r]) fun q hq => by rw [List.mem_singleton.mp hq]; exact h.1
    have h2 := rNs_len hl h.2.1
    have h3 := h.2.2.1
    simp only [List.length_singleton] at h1
    refine ⟨by omega, by omega, fun p hp => ?_⟩
    have := (h.2.2.2.1 p hp).1.ts.len
    omega
theorem c_hasloop (d : Nat) {m : Nat} {b : List Stm} (h : depB b ≤ m) (hc : cntB w1 b ≤ 9000) (hm : m ≤ 100) : call PG (d + m + 3) 67 [.dat (.tup (bD b))] [] = some (.dat (.bl (decide (0 < cntB wLp b))), []) := by
  have e := c_placed m d h hc [] (by simp; omega)
  have g5 := few_cnt (b := b) (ws := [wWhl]) (w := wLp) fun s => by cases s <;> simp [wLp, word, wCho, wIf, wSet, wAny, wNote, wWhl]
  have e5 := c_counted (d + m + 1) (plB [] 0 b) [wWhl]
  rw [g5] at e5
  have ep : plcD [] = .tup [] := rfl
  rw [ep] at e
  rw [call_go F67 rfl rfl]
  simp only [List.map_cons, List.map_nil] at e5
  simp [F67, startE, e, e5, fzO]
/-- a plan that must_plan lets by -/
structure MustOk (ns : List Nat) (rs : List Row) (b : List Stm) : Prop where
  few : FewOk ns b
  rn : ∀ x ∈ rNs rs, x ∈ ns
  rl : (rNs rs).length ≤ 1000
  st : ∀ q ∈ plB [] 0 b, fewS q.2 ∧ (∀ x ∈ nmS q.2, x ∈ ns) ∧ ∀ r rs f c, q.2 = .whl r rs (some f) c → cntB wLp c = 0
theorem plB_mem_cnt (p q : List Nat) (t : Stm) {k : Nat} {b : List Stm} (w : Stm → Nat) (h : (q, t) ∈ plB p k b) : cntS w t ≤ cntB w b ∧ depS t ≤ depB b := by
  have key : ∀ n : Nat, ∀ (p : List Nat) (k : Nat) (b : List Stm), sizeOf b ≤ n → (q, t) ∈ plB p k b → cntS w t ≤ cntB w b ∧ depS t ≤ depB b := by
    intro n
    induction n with
    | zero => intro p k b hb; cases b <;> simp at hb
    | succ n ih =>
      intro p k b hb h
      cases b with
      | nil => simp [plB] at h
      | cons s b =>
        simp only [plB, List.mem_cons, List.mem_append] at h
        simp only [cntB, depB]
        have hs : sizeOf (s :: b) = 1 + sizeOf s + sizeOf b := by simp
        rcases h with h | h | h
        · cases h; omega
        · rw [plS_blks, List.mem_flatMap] at h
          obtain ⟨x, hx, h⟩ := h
          have h1 := blks_sz hx
          have h2 := ih _ _ _ (by omega) h
          have hm : x.1 ∈ blks s := by
            obtain ⟨_, _, e⟩ := List.mem_zipIdx hx
            rw [e]; exact List.getElem_mem _
          have h3 : cntB w x.1 ≤ cntS w s ∧ depB x.1 ≤ depS s := by
            cases s <;> simp [blks] at hm
            · rcases hm with e | e <;> rw [e] <;> simp only [cntS, depS] <;> omega
            · rcases hm with e | e <;> rw [e] <;> simp only [cntS, depS] <;> omega
            · rw [hm]; simp only [cntS, depS]; omega
          omega
        · have := ih _ _ _ (by omega) h
          omega
  exact key _ p k b (Nat.le_refl _) h
theorem PlOk.must {P : Pl} (h : PlOk P) : MustOk P.ns P.rs P.b := by
  have hl := h.nm.len
  refine ⟨⟨hl, h.n, h.br, h.lp, h.an, h.nt, h.dp⟩, rNs_in h.rs, ?_, fun q hq => ?_⟩
  · have := rNs_len (by omega : P.ns.length ≤ 10) h.rs
    have := h.rl
    omega
  · have ok := plB_ok [] q.1 q.2 0 P.b h.ok hq
    have hc := (plB_mem_cnt [] q.1 q.2 wNt hq).1
    have := h.nt
    refine ⟨okS_few (by omega) ok (by omega), nmS_in ok, fun r rs f c e => ?_⟩
    rw [e] at ok
    simp only [okS] at ok
    exact (ok.2.2.2.1 f rfl).2.2.2
theorem for_mustP {d : Nat} {ns : List Nat} (x0 x1 x3 x4 : Option Val) : ∀ {L : List (List Nat × Stm)} {x5 x6 : Option Val}, (∀ q ∈ L, fewS q.2 ∧ (∀ x ∈ nmS q.2, x ∈ ns) ∧ depS q.2 ≤ 4 ∧ cntS w1 q.2 ≤ 24 ∧ ∀ r rs f c, q.2 = .whl r rs (some f) c → cntB wLp c = 0) →
    ∃ y5 y6, FOR (call PG (d + 8)) [5, 6] true F68b0 (L.map prD) [x0, x1, some (.dat (.tup (ns.map nmD))), x3, x4, x5, x6] [] = some (.nx [x0, x1, some (.dat (.tup (ns.map nmD))), x3, x4, y5, y6] [])
  | [], x5, x6, _ => ⟨x5, x6, rfl⟩
  | (p, s) :: L, x5, x6, h => by
    obtain ⟨y5, y6, ih⟩ := for_mustP (d := d) x0 x1 x3 x4 (L := L) (x5 := some (.dat (plcD p))) (x6 := some (.dat (sD s))) fun q hq => h q (List.mem_cons_of_mem _ hq)
    refine ⟨y5, y6, ?_⟩
    obtain ⟨h1, h2, h3, h3', h4⟩ := h (p, s) List.mem_cons_self
    dsimp only at h1 h2 h3 h3' h4
    obtain ⟨r, e1, e2⟩ := c_by (d + 6) h1
    have e3 := c_have (d + 7) h2
    have ek := fun st => e2.kept (st := st)
    rw [List.map_cons, FOR_cons, ← ih]
    have hw : word s = wWhl → ∃ r rs f c, s = .whl r rs f c := by
      intro e
      cases s <;> simp [word, wSet, wAny, wNote, wCho, wIf, wWhl] at e
      exact ⟨_, _, _, _, rfl⟩
    have hb : bindT [5, 6] true (prD (p, s)) [x0, x1, some (.dat (.tup (ns.map nmD))), x3, x4, x5, x6] = some [x0, x1, some (.dat (.tup (ns.map nmD))), x3, x4, some (.dat (plcD p)), some (.dat (sD s))] := rfl
    rw [hb]
    by_cases hs : word s = wWhl
    · obtain ⟨r', rs, f, c, rfl⟩ := hw hs
      simp only [depS, cntS] at h3 h3'
      have i0 : idxV (.dat (sD (.whl r' rs f c))) (.dat (.int 0)) [] = some (.str wWhl) := by simp [word]
      cases f with
      | none =>
        have i3 : idxV (.dat (sD (.whl r' rs none c))) (.dat (.int 3)) [] = some .non := by simp [sD, feD]
        simp [F68b0, e1, ek, e3, i0, i3]
      | some f =>
        have hl0 := h4 _ _ _ _ rfl
        have e5 := c_hasloop (d + 2) (m := 3) (b := c) (by omega) (by omega) (by decide)
        rw [hl0] at e5
        have i3 : idxV (.dat (sD (.whl r' rs (some f) c))) (.dat (.int 3)) [] = some (.tup [smD f.1, .int f.2]) := by simp [sD, feD]
        have i4 : idxV (.dat (sD (.whl r' rs (some f) c))) (.dat (.int 4)) [] = some (.tup (bD c)) := by simp [sD, feD]
        simp [F68b0, e1, ek, e3, i0, i3, i4, e5]
    · have i0 : ¬ (word s = [119, 104, 105, 108, 101]) := hs
      simp [F68b0, e1, ek, e3, i0]
theorem c_mustP (d : Nat) {ns : List Nat} {rs : List Row} {b : List Stm} (h : MustOk ns rs b) : call PG (d + 9) 68 [.dat (pD ⟨ns, rs, b⟩)] [] = some (.dat .non, []) := by
  have hdp := h.few.dp
  have hn := h.few.n
  have e1 := c_placed 4 (d + 2) hdp (by omega) [] (by simp)
  have ep : plcD [] = .tup [] := rfl
  rw [ep] at e1
  have e2 := c_bounds (d + 5) h.few
  have e3 := c_names65 (d + 7) (rs := rs) (by have := h.rl; omega) (v := .dat (.tup (rs.map rD))) rfl ⟨_, rfl⟩
  have e4 := c_have (d + 7) h.rn
  obtain ⟨y5, y6, e5⟩ := for_mustP (d := d) (ns := ns) (some (.dat (pD ⟨ns, rs, b⟩))) (some (.dat (.lst ((plB [] 0 b).map prD)))) (some (.dat (.tup (rs.map rD)))) (some (.dat (.tup (bD b)))) (L := plB [] 0 b) (x5 := none) (x6 := none) fun q hq => by
    obtain ⟨h1, h2, h3⟩ := h.st q hq
    have h4 := plB_mem_cnt [] q.1 q.2 w1 hq
    exact ⟨h1, h2, by omega, by omega, h3⟩
  have epd : pD ⟨ns, rs, b⟩ = .tup [.tup (ns.map nmD), .tup (rs.map rD), .tup (bD b)] := rfl
  rw [call_go F68 rfl rfl]
  rw [epd] at e5 ⊢
  simp [F68, startE, e1, fzO, e2, e3, e4, e5]
end NK
set_option Elab.async false
set_option linter.all false
set_option autoImplicit false
set_option maxRecDepth 100000
namespace NK
open PySem L2
/-! points whose numbers grow: worth and is_so of them -/
/-- a point at hand: what it has for a name -/
structure PtG (pv : Val) (look : Nat → Int × Int) (ns : List Nat) : Prop where
  kind : (∃ ks ds, pv = .bor (.dK ks ds)) ∨ ∃ ks ds, pv = .dat (.dK ks ds)
  get : ∀ c ∈ ns, ∀ st, idxV pv (.dat (nmD c)) st = some (frD (look c))
  has : ∀ c ∈ ns, ∀ st, cmpV .notin (.dat (nmD c)) pv st = some false
  fr : ∀ c ∈ ns, Fr (look c).1 (look c).2 ∧ Bd 27500 (look c).1 ∧ Bd 700 (look c).2
theorem acc_lowG {pv : Val} {look : Nat → Int × Int} {ns : List Nat} (hp : PtG pv look ns) : ∀ {ts : List (Nat × Int)} {t b : Int}, TmOk ts ns → 0 < b → 0 < (acc look ts t b).2
  | [], t, b, _, h => h
  | (c, w) :: r, t, b, h, hb => by
    have hf := (hp.fr c (h.mem _ List.mem_cons_self)).1.pos
    exact acc_lowG hp (ts := r) ⟨fun t ht => h.mem t (List.mem_cons_of_mem _ ht), fun t ht => h.bd t (List.mem_cons_of_mem _ ht)⟩ (Int.mul_pos hb hf)
theorem acc_bdG {pv : Val} {look : Nat → Int × Int} {ns : List Nat} (hp : PtG pv look ns) : ∀ {ts : List (Nat × Int)} {t b : Int} {n m : Nat}, TmOk ts ns → Bd n t → Bd m b → Bd (n + (m + 30000 * ts.length) * ts.length) (acc look ts t b).1 ∧ Bd (m + 700 * ts.length) (acc look ts t b).2
  | [], t, b, n, m, _, h1, h2 => by
    refine ⟨h1.mono (by simp), h2⟩
  | (c, w) :: r, t, b, n, m, h, h1, h2 => by
    obtain ⟨_, f1, f2⟩ := hp.fr c (h.mem _ List.mem_cons_self)
    have hw : Bd 80 w := h.bd _ List.mem_cons_self
    have e1 := (h1.mul f2).add ((hw.mul f1).mul h2)
    have e2 := h2.mul f2
    obtain ⟨g1, g2⟩ := acc_bdG hp (ts := r) ⟨fun t ht => h.mem t (List.mem_cons_of_mem _ ht), fun t ht => h.bd t (List.mem_cons_of_mem _ ht)⟩ e1 e2
    refine ⟨g1.mono ?_, g2.mono ?_⟩
    · simp only [List.length_cons]
      have a1 : (m + 700 + 30000 * r.length) * r.length ≤ (m + 30000 * (r.length + 1)) * r.length := Nat.mul_le_mul_right _ (by omega)
      have a2 : (m + 30000 * (r.length + 1)) * (r.length + 1) = (m + 30000 * (r.length + 1)) * r.length + (m + 30000 * (r.length + 1)) := Nat.mul_succ _ _
      omega
    · simp only [List.length_cons]; omega
section
variable {pv : Val} {look : Nat → Int × Int} {ns : List Nat}
theorem for_worthG (C : Calls) (hp : PtG pv look ns) (x0 x4 x5 x6 : Option Val) : ∀ {ts : List (Nat × Int)} {t b : Int} {n m : Nat} {x7 x8 x9 x10 : Option Val}, TmOk ts ns → Bd n t → Bd m b → ts.length ≤ 10 → n ≤ 10000 + 100000 * (10 - ts.length) → m ≤ 1000 + 700 * (10 - ts.length) →
    ∃ y7 y8 y9 y10, FOR C [7, 8] true F26b0 (ts.map tmD) [x0, some pv, some (.dat (.int t)), some (.dat (.int b)), x4, x5, x6, x7, x8, x9, x10] [] = some (.nx [x0, some pv, some (.dat (.int (acc look ts t b).1)), some (.dat (.int (acc look ts t b).2)), x4, x5, x6, y7, y8, y9, y10] [])
  | [], t, b, n, m, x7, x8, x9, x10, _, _, _, _, _, _ => ⟨x7, x8, x9, x10, rfl⟩
  | (c, w) :: r, t, b, n, m, x7, x8, x9, x10, h, h1, h2, hl, hn, hm => by
    obtain ⟨_, f1, f2⟩ := hp.fr c (h.mem _ List.mem_cons_self)
    have hw : Bd 80 w := h.bd _ List.mem_cons_self
    have e1 := (h1.mul f2).add ((hw.mul f1).mul h2)
    have e2 := h2.mul f2
    simp only [List.length_cons] at hl hn hm
    obtain ⟨y7, y8, y9, y10, ih⟩ := for_worthG C hp x0 x4 x5 x6 (ts := r) (x7 := some (.dat (nmD c))) (x8 := some (.dat (.int w))) (x9 := some (.dat (.int (look c).1))) (x10 := some (.dat (.int (look c).2))) ⟨fun t ht => h.mem t (List.mem_cons_of_mem _ ht), fun t ht => h.bd t (List.mem_cons_of_mem _ ht)⟩ e1 e2 (by omega) (by omega) (by omega)
    refine ⟨y7, y8, y9, y10, ?_⟩
    have m1 : okMul t (look c).2 = true := okMul_bd h1 f2 (by omega)
    have m2 : okMul w (look c).1 = true := okMul_bd hw f1
    have m3 : okMul (w * (look c).1) b = true := okMul_bd (hw.mul f1) h2 (by omega)
    have m4 : okMul b (look c).2 = true := okMul_bd h2 f2 (by omega)
    have hg := hp.get c (h.mem _ List.mem_cons_self) []
    rw [acc, ← ih]
    simp [FOR, forV, tmD, F26b0, hg, frD, m1, m2, m3, m4]
theorem for_mustG (C : Calls) (hp : PtG pv look ns) (x0 : Option Val) : ∀ {ts : List (Nat × Int)} {x2 x3 : Option Val}, TmOk ts ns → ∃ y2 y3, FOR C [2, 3] true F25b0 (ts.map tmD) [x0, some pv, x2, x3] [] = some (.nx [x0, some pv, y2, y3] [])
  | [], x2, x3, _ => ⟨x2, x3, rfl⟩
  | (c, w) :: r, x2, x3, h => by
    obtain ⟨y2, y3, ih⟩ := for_mustG C hp x0 (ts := r) (x2 := some (.dat (nmD c))) (x3 := some (.dat (.int w))) ⟨fun t ht => h.mem t (List.mem_cons_of_mem _ ht), fun t ht => h.bd t (List.mem_cons_of_mem _ ht)⟩
    refine ⟨y2, y3, ?_⟩
    have hg := hp.has c (h.mem _ List.mem_cons_self) []
    rw [← ih]
    simp [FOR, forV, tmD, F25b0, hg]
theorem c_mustG (d : Nat) (hp : PtG pv look ns) {ts : List (Nat × Int)} (h : TmOk ts ns) : call PG (d + 1) 25 [.dat (.tup (ts.map tmD)), pv] [] = some (.dat .non, []) := by
  obtain ⟨y2, y3, hf⟩ := for_mustG (call PG d) hp (some (.dat (.tup (ts.map tmD)))) (ts := ts) (x2 := none) (x3 := none) h
  rw [call_go F25 rfl rfl]
  simp [F25, startE, hf]
/-- worth: the quotient, in lowest terms -/
theorem c_worthG (d : Nat) (hp : PtG pv look ns) {ts : List (Nat × Int)} {w by_ : Int} (h : TmOk ts ns) (hl : ts.length ≤ 10) (hw : Bd 200 w) (hb : Bd 100 by_) (hb0 : 0 < by_) :
    ∃ p q, call PG (d + 3) 26 [.dat (.tup [.tup (ts.map tmD), .int w, .int by_]), pv] [] = some (.dat (.tup [.int p, .int q]), []) ∧ p * ((acc look ts w 1).2 * by_) = (acc look ts w 1).1 * q ∧ Fr p q ∧ Bd 4000000 p ∧ Bd 8200 q := by
  have one : Bd 1 1 := bd_lit
  obtain ⟨b1, b2⟩ := acc_bdG hp h hw one
  have b1' : Bd 4000000 (acc look ts w 1).1 := b1.mono (by
    have : (1 + 30000 * ts.length) * ts.length ≤ (1 + 30000 * 10) * 10 := Nat.mul_le_mul (by omega) hl
    omega)
  have b2' : Bd 8000 (acc look ts w 1).2 := b2.mono (by omega)
  have low := acc_lowG hp (t := w) (b := 1) h (by decide)
  have h0 : (acc look ts w 1).2 * by_ ≠ 0 := by
    have := Int.mul_pos low hb0
    omega
  obtain ⟨p, q, h1, h2, h3, h4, h5, h6⟩ := made_is (d := d) _ _ h0 b1' (b2'.mul hb) (by decide)
  obtain ⟨y7, y8, y9, y10, hf⟩ := for_worthG (call PG (d + 2)) hp (some (.dat (.tup [.tup (ts.map tmD), .int w, .int by_]))) (some (.dat (.tup (ts.map tmD)))) (some (.dat (.int w))) (some (.dat (.int by_))) (ts := ts) (x7 := none) (x8 := none) (x9 := none) (x10 := none) h hw one hl (by omega) (by omega)
  have m1 : okMul (acc look ts w 1).2 by_ = true := okMul_bd b2' hb
  have hm := c_mustG (d + 1) hp h
  refine ⟨p, q, ?_, h2, ⟨h3, h4⟩, h5, h6.mono (by decide)⟩
  rw [call_go F26 rfl rfl]
  rcases hp.kind with ⟨ks, ds, rfl⟩ | ⟨ks, ds, rfl⟩
  · simp [F26, startE, hm, hf, m1, h1]
  · simp [F26, startE, hm, hf, m1, h1]
end
section
variable {pv : Val} {look : Nat → Int × Int} {ns : List Nat}
theorem for_totalG (C : Calls) (hp : PtG pv look ns) (x0 : Option Val) : ∀ {ts : List (Nat × Int)} {t b : Int} {n m : Nat} {x4 x5 x6 x7 : Option Val}, TmOk ts ns → Bd n t → Bd m b → ts.length ≤ 10 → n ≤ 10000 + 100000 * (10 - ts.length) → m ≤ 1000 + 700 * (10 - ts.length) →
    ∃ y4 y5 y6 y7, FOR C [4, 5] true F30b0 (ts.map tmD) [x0, some pv, some (.dat (.int t)), some (.dat (.int b)), x4, x5, x6, x7] [] = some (.nx [x0, some pv, some (.dat (.int (acc look ts t b).1)), some (.dat (.int (acc look ts t b).2)), y4, y5, y6, y7] [])
  | [], t, b, n, m, x4, x5, x6, x7, _, _, _, _, _, _ => ⟨x4, x5, x6, x7, rfl⟩
  | (c, w) :: r, t, b, n, m, x4, x5, x6, x7, h, h1, h2, hl, hn, hm => by
    obtain ⟨_, f1, f2⟩ := hp.fr c (h.mem _ List.mem_cons_self)
    have hw : Bd 80 w := h.bd _ List.mem_cons_self
    have e1 := (h1.mul f2).add ((hw.mul f1).mul h2)
    have e2 := h2.mul f2
    simp only [List.length_cons] at hl hn hm
    obtain ⟨y5, y6, y7, y8, ih⟩ := for_totalG C hp x0 (ts := r) (x4 := some (.dat (nmD c))) (x5 := some (.dat (.int w))) (x6 := some (.dat (.int (look c).1))) (x7 := some (.dat (.int (look c).2))) ⟨fun t ht => h.mem t (List.mem_cons_of_mem _ ht), fun t ht => h.bd t (List.mem_cons_of_mem _ ht)⟩ e1 e2 (by omega) (by omega) (by omega)
    refine ⟨y5, y6, y7, y8, ?_⟩
    have m1 : okMul t (look c).2 = true := okMul_bd h1 f2 (by omega)
    have m2 : okMul w (look c).1 = true := okMul_bd hw f1
    have m3 : okMul (w * (look c).1) b = true := okMul_bd (hw.mul f1) h2 (by omega)
    have m4 : okMul b (look c).2 = true := okMul_bd h2 f2 (by omega)
    have hg := hp.get c (h.mem _ List.mem_cons_self) []
    rw [acc, ← ih]
    simp [FOR, forV, tmD, F30b0, hg, frD, m1, m2, m3, m4]
theorem c_total30G (d : Nat) (hp : PtG pv look ns) {ts : List (Nat × Int)} (h : TmOk ts ns) (hl : ts.length ≤ 10) : call PG (d + 1) 30 [.dat (tmsD ts), pv] [] = some (.dat (.lst [.int (acc look ts 0 1).1, .int (acc look ts 0 1).2]), []) := by
  obtain ⟨y5, y6, y7, y8, hf⟩ := for_totalG (call PG d) hp (some (.dat (tmsD ts))) (ts := ts) (t := 0) (b := 1) (n := 1) (m := 1) (x4 := none) (x5 := none) (x6 := none) (x7 := none) h bd_lit bd_lit hl (by omega) (by omega)
  unfold tmsD at *
  rw [call_go F30 rfl rfl]
  simp [F30, startE, hf]
theorem acc_bdsG (hp : PtG pv look ns) {ts : List (Nat × Int)} (h : TmOk ts ns) (hl : ts.length ≤ 10) : Bd 4000000 (acc look ts 0 1).1 ∧ Bd 8000 (acc look ts 0 1).2 ∧ 0 < (acc look ts 0 1).2 := by
  have one : Bd 1 1 := bd_lit
  have nil : Bd 1 0 := bd_lit
  obtain ⟨b1, b2⟩ := acc_bdG hp h nil one
  refine ⟨b1.mono (by
    have : (1 + 30000 * ts.length) * ts.length ≤ (1 + 30000 * 10) * 10 := Nat.mul_le_mul (by omega) hl
    omega), b2.mono (by omega), acc_lowG hp h (by decide)⟩
theorem c_issoG (d : Nat) (hp : PtG pv look ns) {m : Bool} {ts : List (Nat × Int)} {b : Int} (h : TmOk ts ns) (hl : ts.length ≤ 10) (hb : Bd 90 b) : call PG (d + 4) 31 [.dat (rowD m ts b), pv] [] = some (.dat (.bl (soB look m ts b)), []) := by
  obtain ⟨p, q, g1, g2, g3, g4, g5⟩ := c_worthG d hp h hl (w := 0) (by_ := 1) bd_lit bd_lit (by decide)
  obtain ⟨h1, h2, h3⟩ := acc_bdsG hp h hl
  rw [Int.mul_one] at g2
  have m1 : okMul b q = true := okMul_bd hb g5
  have m2 : okMul p 1 = true := okMul_bd g4 (n := 1) bd_lit
  have l1 := c_less (d + 2) b 1 p q m1 m2
  have l2 := c_less (d + 2) p q b 1 m2 m1
  have q0 := g3.pos
  have k1 : (b * q < p * 1) ↔ (b * (acc look ts 0 1).2 < (acc look ts 0 1).1) := by
    generalize (acc look ts 0 1).1 = T at *
    generalize (acc look ts 0 1).2 = B at *
    rw [Int.mul_one]
    constructor
    · intro hlt
      have : b * q * B < p * B := Int.mul_lt_mul_of_pos_right hlt h3
      rw [g2] at this
      have e : b * q * B = (b * B) * q := by grind
      rw [e] at this
      exact Int.lt_of_mul_lt_mul_right this (by omega)
    · intro hlt
      have : b * B * q < T * q := Int.mul_lt_mul_of_pos_right hlt q0
      rw [← g2] at this
      have e : b * B * q = (b * q) * B := by grind
      rw [e] at this
      exact Int.lt_of_mul_lt_mul_right this (by omega)
  have k2 : (p * 1 < b * q) ↔ ((acc look ts 0 1).1 < b * (acc look ts 0 1).2) := by
    generalize (acc look ts 0 1).1 = T at *
    generalize (acc look ts 0 1).2 = B at *
    rw [Int.mul_one]
    constructor
    · intro hlt
      have : p * B < b * q * B := Int.mul_lt_mul_of_pos_right hlt h3
      rw [g2] at this
      have e : b * q * B = (b * B) * q := by grind
      rw [e] at this
      exact Int.lt_of_mul_lt_mul_right this (by omega)
    · intro hlt
      have : T * q < b * B * q := Int.mul_lt_mul_of_pos_right hlt q0
      rw [← g2] at this
      have e : b * B * q = (b * q) * B := by grind
      rw [e] at this
      exact Int.lt_of_mul_lt_mul_right this (by omega)
  have L1 : call PG (d + 3) 7 [.dat (.tup [.int b, .int 1]), .dat (.tup [.int p, .int q])] [] = some (.dat (.bl (decide (b * (acc look ts 0 1).2 < (acc look ts 0 1).1))), []) := by
    rw [show d + 3 = d + 2 + 1 from rfl, l1, decide_eq_decide.mpr k1]
  have L2 : call PG (d + 3) 7 [.dat (.tup [.int p, .int q]), .dat (.tup [.int b, .int 1])] [] = some (.dat (.bl (decide ((acc look ts 0 1).1 < b * (acc look ts 0 1).2))), []) := by
    rw [show d + 3 = d + 2 + 1 from rfl, l2, decide_eq_decide.mpr k2]
  clear l1 l2
  unfold rowD tmsD
  rw [call_go F31 rfl rfl]
  rcases hp.kind with ⟨ks, ds, rfl⟩ | ⟨ks, ds, rfl⟩ <;> cases m <;> simp [F31, startE, g1, L1, L2, soB, wd, mor4, lst5]
end
end NK
set_option Elab.async false
set_option linter.all false
set_option autoImplicit false
set_option maxRecDepth 100000
namespace NK
open PySem L2
/-! RRun: what a run comes to, as functions; the program's Run does just that -/
/-! ### exact values -/
def redF (t b : Int) : Int × Int := (t.fdiv (share t b), b.fdiv (share t b))
theorem redF_spec {t b : Int} (hb : b ≠ 0) : (redF t b).1 * b = t * (redF t b).2 ∧ Fr (redF t b).1 (redF t b).2 := by
  obtain ⟨p, q, h1, h2, h3, h4, h5, h6, _⟩ := share_spec (t := t) hb
  unfold redF
  rw [h3, h4]
  refine ⟨?_, h5, h6⟩
  have : p * (share t b * q) = share t b * p * q := by rw [Int.mul_left_comm, Int.mul_assoc]
  rw [← h1, ← h2] at this
  exact this
theorem redF_eq {t b p q : Int} (hb : b ≠ 0) (h : p * b = t * q) (hf : Fr p q) : p = (redF t b).1 ∧ q = (redF t b).2 := by
  obtain ⟨g1, g2⟩ := redF_spec (t := t) hb
  refine frac_unique hf.pos g2.pos hf.low g2.low ?_
  have e : (p * (redF t b).2) * b = ((redF t b).1 * q) * b := by
    calc (p * (redF t b).2) * b = (p * b) * (redF t b).2 := by grind
      _ = t * q * (redF t b).2 := by rw [h]
      _ = (t * (redF t b).2) * q := by grind
      _ = ((redF t b).1 * b) * q := by rw [g1]
      _ = ((redF t b).1 * q) * b := by grind
  exact Int.eq_of_mul_eq_mul_right hb e
/-- what a sum is worth -/
def wv (look : Nat → Int × Int) (s : Sm) : Int × Int := redF (acc look s.ts s.w 1).1 ((acc look s.ts s.w 1).2 * s.m)
section
variable {pv : Val} {look : Nat → Int × Int} {ns : List Nat}
structure SmG (ns : List Nat) (s : Sm) : Prop where
  ts : TmOk s.ts ns
  len : s.ts.length ≤ 10
  w : Bd 80 s.w
  m0 : 0 < s.m
  m1 : s.m ≤ 3
theorem SmG.mb {s : Sm} (h : SmG ns s) : Bd 100 s.m := Bd.of_le (b := 3) (by have := h.m0; have := h.m1; omega) (by decide)
theorem c_wv (d : Nat) (hp : PtG pv look ns) {s : Sm} (h : SmG ns s) : call PG (d + 3) 26 [.dat (smD s), pv] [] = some (.dat (frD (wv look s)), []) ∧ Fr (wv look s).1 (wv look s).2 ∧ Bd 4000000 (wv look s).1 ∧ Bd 8200 (wv look s).2 := by
  obtain ⟨p, q, h1, h2, h3, h4, h5⟩ := c_worthG d hp h.ts h.len (h.w.mono (by decide)) h.mb h.m0
  have low := acc_lowG hp (t := s.w) (b := 1) h.ts (by decide)
  have h0 : (acc look s.ts s.w 1).2 * s.m ≠ 0 := by
    have := Int.mul_pos low h.m0
    omega
  obtain ⟨e1, e2⟩ := redF_eq h0 h2 h3
  have e : (p, q) = wv look s := by unfold wv; rw [e1, e2]
  subst_vars
  rw [← e]
  exact ⟨h1, h3, h4, h5⟩
/-- a row -/
structure RwG (ns : List Nat) (r : Row) : Prop where
  ts : TmOk r.2.1 ns
  len : r.2.1.length ≤ 10
  b : Bd 80 r.2.2
def soR (look : Nat → Int × Int) (r : Row) : Bool := soB look r.1 r.2.1 r.2.2
theorem c_so (d : Nat) (hp : PtG pv look ns) {r : Row} (h : RwG ns r) : call PG (d + 4) 31 [.dat (rD r), pv] [] = some (.dat (.bl (soR look r)), []) := c_issoG d hp h.ts h.len (h.b.mono (by decide))
theorem boolsD_mapR {α : Type} (f : α → Bool) : ∀ xs : List α, boolsD (xs.map fun x => .bl (f x)) = some (xs.map f)
  | [] => rfl
  | x :: xs => by rw [List.map_cons, List.map_cons]; simp [boolsD, boolsD_mapR f xs]
theorem c_all (d : Nat) (hp : PtG pv look ns) {rs : List Row} (h : ∀ r ∈ rs, RwG ns r) : call PG (d + 5) 116 [.dat (.tup (rs.map rD)), pv] [] = some (.dat (.bl (rs.all (soR look))), []) := by
  have hc := COMP_tm (C := call PG (d + 4)) (elt := .call 31 [false, false] [(.var 2), (.var 1)]) (tg := [2]) (own := [2]) (tup := false) (env := [some (.dat (.tup (rs.map rD))), some pv, none]) (st := []) rD (fun r => .bl (soR look r)) (L := rs) fun r hr => by
    refine ⟨_, rfl, ?_⟩
    have := c_so d hp (h r hr)
    rcases hp.kind with ⟨ks, ds, rfl⟩ | ⟨ks, ds, rfl⟩ <;> simp [wipeE, this]
  have ha : ∀ st : Sto, biV .all [.dat (.lst (rs.map fun r => .bl (soR look r)))] st = some (.bl (rs.all (soR look))) := fun st => by
    simp [biV, boolsD_mapR, asLT, asT, asL, snap, List.all_map]
    first | done | rfl
  rw [call_go F116 rfl rfl]
  simp [F116, startE, hc, ha, fzO]
theorem c_madeR (d : Nat) {n m : Nat} {t b : Int} (hb : b ≠ 0) (ht : Bd n t) (hbd : Bd m b) (hm : m ≤ 9000) : call PG (d + 2) 3 [.dat (.int t), .dat (.int b)] [] = some (.dat (frD (redF t b)), []) := by
  obtain ⟨p, q, h1, h2, h3, h4, h5, h6, h7, h8, h9⟩ := share_spec (t := t) hb
  exact c_made d t b hb ((hbd.le_of h9).mono hm)
/-- a is above b -/
def ltF (a b : Int × Int) : Bool := decide (a.1 * b.2 < b.1 * a.2)
def subF (a b : Int × Int) : Int × Int := redF (a.1 * b.2 - b.1 * a.2) (a.2 * b.2)
/-- the measure falls -/
def fallB (look : Nat → Int × Int) (f : Sm × Int) : Option (Int × Int) → Bool
  | none => true
  | some l => !ltF (subF l (wv look f.1)) (redF f.2 1)
structure FeG (ns : List Nat) (f : Sm × Int) : Prop where
  s : SmG ns f.1
  f : Bd 80 f.2
def laD : Option (Int × Int) → D
  | none => .non
  | some l => frD l
theorem c_subF (d : Nat) {a b : Int × Int} (a0 : 0 < a.2) (b0 : 0 < b.2) (a1 : Bd 27500 a.1) (a2 : Bd 700 a.2) (b1 : Bd 27500 b.1) (b2 : Bd 700 b.2) : call PG (d + 3) 14 [.dat (frD a), .dat (frD b)] [] = some (.dat (frD (subF a b)), []) ∧ Bd 60000 (subF a b).1 ∧ Bd 1400 (subF a b).2 := by
  have m1 : okMul a.1 b.2 = true := okMul_bd a1 b2
  have m2 : okMul b.1 a.2 = true := okMul_bd b1 a2
  have m3 : okMul a.2 b.2 = true := okMul_bd a2 b2
  have h0 := Int.mul_pos a0 b0
  have t1 : Bd 60000 (a.1 * b.2 - b.1 * a.2) := ((a1.mul b2).sub (b1.mul a2)).mono (by decide)
  have t2 : Bd 1400 (a.2 * b.2) := a2.mul b2
  have e := c_madeR d (by omega) t1 t2 (by decide)
  obtain ⟨p, q, g1, g2, g3, g4, g5, g6, g7, g8, g9⟩ := share_spec (t := a.1 * b.2 - b.1 * a.2) (b := a.2 * b.2) (by omega)
  refine ⟨?_, ?_, ?_⟩
  · rw [call_go F14 rfl rfl]
    unfold subF
    simp [F14, startE, frD, m1, m2, m3]
    simp only [frD] at e
    rw [e]
    simp
  · unfold subF redF
    dsimp only
    rw [g3]
    exact t1.le_of g7
  · unfold subF redF
    dsimp only
    rw [g4]
    exact t2.le_of g8
theorem redF_one (n : Int) : redF n 1 = (n, 1) := by
  have h : share n 1 = 1 := by unfold share; simp
  unfold redF
  rw [h]
  simp
/-- falls, asked -/
theorem c_falls (d : Nat) (hp : PtG pv look ns) {f : Sm × Int} (h : FeG ns f) (hw : Bd 27500 (wv look f.1).1 ∧ Bd 700 (wv look f.1).2) {l : Option (Int × Int)} (hl : ∀ x, l = some x → Fr x.1 x.2 ∧ Bd 27500 x.1 ∧ Bd 700 x.2) : call PG (d + 4) 120 [.dat (feD (some f)), pv, .dat (laD l)] [] = some (.dat (.bl (fallB look f l)), []) := by
  rw [call_go F120 rfl rfl]
  cases l with
  | none =>
    rcases hp.kind with ⟨ks, ds, rfl⟩ | ⟨ks, ds, rfl⟩ <;> simp [F120, startE, laD, fallB]
  | some x =>
    obtain ⟨x1, x2, x3⟩ := hl x rfl
    obtain ⟨e1, w1, w2, w3⟩ := c_wv d hp h.s
    obtain ⟨e2, s1, s2⟩ := c_subF d x1.pos w1.pos x2 x3 hw.1 hw.2
    have one : Bd 1 1 := bd_lit
    have e3 := c_madeR (d + 1) (t := f.2) (b := 1) (by decide) h.f one (by decide)
    have r := redF_one f.2
    have m1 : okMul (subF x (wv look f.1)).1 1 = true := okMul_bd s1 one
    have m2 : okMul f.2 (subF x (wv look f.1)).2 = true := okMul_bd h.f s2
    have e4 := c_less (d + 2) (subF x (wv look f.1)).1 (subF x (wv look f.1)).2 f.2 1 m1 m2
    rw [r] at e3
    simp only [frD] at e1 e2 e3
    rcases hp.kind with ⟨ks, ds, rfl⟩ | ⟨ks, ds, rfl⟩ <;> simp [F120, startE, laD, feD, fallB, frD, e1, e2, e3, e4, r, ltF]
end
end NK
set_option Elab.async false
set_option linter.all false
set_option autoImplicit false
set_option maxRecDepth 100000
namespace NK
open PySem L2
/-! RNum: a point's numbers over one common bottom -/
def zf (D : Int) (f : Int × Int) : Int := f.1 * (D / f.2)
/-- f over the bottom D, its top at most B -/
structure Cd (D : Int) (B : Nat) (f : Int × Int) : Prop where
  fr : Fr f.1 f.2
  dv : f.2 ∣ D
  bd : (zf D f).natAbs ≤ B
theorem Cd.eq {D : Int} {B : Nat} {f : Int × Int} (h : Cd D B f) : f.1 * D = zf D f * f.2 := by
  obtain ⟨k, e⟩ := h.dv
  have h0 := h.fr.pos
  unfold zf
  rw [e, Int.mul_ediv_cancel_left _ (by omega)]
  grind
theorem Cd.small {D : Int} {B : Nat} {f : Int × Int} (h : Cd D B f) (hD : 0 < D) : f.1.natAbs ≤ B ∧ f.2 ≤ D := by
  obtain ⟨k, e⟩ := h.dv
  have h0 := h.fr.pos
  have hk : 0 < k := by
    by_cases hk : 0 < k
    · exact hk
    · have : f.2 * k ≤ f.2 * 0 := Int.mul_le_mul_of_nonneg_left (by omega) (by omega)
      omega
  refine ⟨?_, Int.le_of_dvd hD h.dv⟩
  have hb := h.bd
  unfold zf at hb
  rw [e, Int.mul_ediv_cancel_left _ (by omega), Int.natAbs_mul] at hb
  have : f.1.natAbs * 1 ≤ f.1.natAbs * k.natAbs := Nat.mul_le_mul_left _ (by omega)
  omega
theorem Cd.mul {D : Int} {B : Nat} {f : Int × Int} (h : Cd D B f) {k : Int} (hk : 0 < k) {m : Nat} (hm : k.natAbs ≤ m) : Cd (D * k) (B * m) f := by
  refine ⟨h.fr, Int.dvd_trans h.dv ⟨k, rfl⟩, ?_⟩
  have hb := h.bd
  have e : zf (D * k) f = zf D f * k := by
    unfold zf
    rw [Int.mul_comm D k, Int.mul_ediv_assoc _ h.dv]
    grind
  rw [e, Int.natAbs_mul]
  exact Nat.mul_le_mul hb hm
theorem Cd.mono {D : Int} {B C : Nat} {f : Int × Int} (h : Cd D B f) (hb : B ≤ C) : Cd D C f := ⟨h.fr, h.dv, Nat.le_trans h.bd hb⟩
theorem Cd.of {D Z p q : Int} (hf : Fr p q) (h : p * D = Z * q) : Cd D Z.natAbs (p, q) := by
  have dv : q ∣ D := dvd_of_low hf.low ⟨Z, by rw [h, Int.mul_comm]⟩
  refine ⟨hf, dv, ?_⟩
  have h0 := hf.pos
  obtain ⟨k, rfl⟩ := dv
  unfold zf
  dsimp only
  rw [Int.mul_ediv_cancel_left _ (by omega)]
  have : p * k = Z := by
    have e : (p * k) * q = Z * q := by rw [← h]; grind
    exact Int.eq_of_mul_eq_mul_right (by omega) e
  rw [this]
  exact Nat.le_refl _
/-- the weights times the tops -/
def sz (D : Int) (look : Nat → Int × Int) : List (Nat × Int) → Int
  | [] => 0
  | (c, w) :: r => w * zf D (look c) + sz D look r
theorem acc_cd {D : Int} {B : Nat} {look : Nat → Int × Int} : ∀ {ts : List (Nat × Int)} {t b : Int}, (∀ x ∈ ts, Cd D B (look x.1)) → 0 < b → (acc look ts t b).1 * D * b = (acc look ts t b).2 * (t * D + b * sz D look ts)
  | [], t, b, _, _ => by simp only [acc, sz]; grind
  | (c, w) :: r, t, b, h, hb => by
    have hc := h _ List.mem_cons_self
    dsimp only at hc
    have h0 := hc.fr.pos
    have e := hc.eq
    have ih := acc_cd (ts := r) (t := t * (look c).2 + w * (look c).1 * b) (b := b * (look c).2) (fun x hx => h x (List.mem_cons_of_mem _ hx)) (Int.mul_pos hb h0)
    simp only [acc, sz]
    generalize (acc look r (t * (look c).2 + w * (look c).1 * b) (b * (look c).2)).1 = A at *
    generalize (acc look r (t * (look c).2 + w * (look c).1 * b) (b * (look c).2)).2 = E at *
    generalize sz D look r = S at *
    generalize zf D (look c) = Z at *
    generalize (look c).1 = x at *
    generalize (look c).2 = y at *
    have e2 : (t * y + w * x * b) * D + b * y * S = (t * D + b * (w * Z + S)) * y := by
      have : w * x * b * D = w * b * (x * D) := by grind
      have e3 : (t * y + w * x * b) * D = t * y * D + w * b * (x * D) := by grind
      rw [e3, e]
      grind
    rw [e2] at ih
    have : (A * D * b) * y = (E * (t * D + b * (w * Z + S))) * y := by
      have l : A * D * (b * y) = A * D * b * y := by grind
      rw [← l, ih]
      grind
    exact Int.eq_of_mul_eq_mul_right (by omega) this
theorem sz_bd {D : Int} {B : Nat} {look : Nat → Int × Int} : ∀ {ts : List (Nat × Int)}, (∀ x ∈ ts, Cd D B (look x.1)) → (∀ x ∈ ts, Bd 80 x.2) → (sz D look ts).natAbs ≤ ts.length * (2 ^ 80 * B)
  | [], _, _ => by simp [sz]
  | (c, w) :: r, h, hw => by
    have ih := sz_bd (ts := r) (fun x hx => h x (List.mem_cons_of_mem _ hx)) fun x hx => hw x (List.mem_cons_of_mem _ hx)
    have h1 : (w * zf D (look c)).natAbs ≤ 2 ^ 80 * B := by
      rw [Int.natAbs_mul]
      exact Nat.mul_le_mul (Nat.le_of_lt (hw _ List.mem_cons_self)) (h _ List.mem_cons_self).bd
    simp only [sz, List.length_cons]
    generalize 2 ^ 80 * B = M at *
    rw [Nat.succ_mul]
    have := Int.natAbs_add_le (w * zf D (look c)) (sz D look r)
    omega
/-- what a sum is worth, over the bottom times the sum's own -/
theorem wv_cd {D : Int} {B : Nat} {look : Nat → Int × Int} {s : Sm} (hD : 0 < D) (h : ∀ x ∈ s.ts, Cd D B (look x.1)) (hm : 0 < s.m) (hlow : 0 < (acc look s.ts s.w 1).2) : Cd (D * s.m) (s.w * D + sz D look s.ts).natAbs (wv look s) := by
  have e := acc_cd (t := s.w) (b := 1) h (by decide)
  rw [Int.mul_one, Int.one_mul] at e
  have h0 : (acc look s.ts s.w 1).2 * s.m ≠ 0 := by
    have := Int.mul_pos hlow hm
    omega
  obtain ⟨g1, g2⟩ := redF_spec (t := (acc look s.ts s.w 1).1) h0
  refine Cd.of (p := (wv look s).1) (q := (wv look s).2) g2 ?_
  show (wv look s).1 * (D * s.m) = (s.w * D + sz D look s.ts) * (wv look s).2
  unfold wv
  generalize (redF (acc look s.ts s.w 1).1 ((acc look s.ts s.w 1).2 * s.m)).1 = p at *
  generalize (redF (acc look s.ts s.w 1).1 ((acc look s.ts s.w 1).2 * s.m)).2 = q at *
  generalize (acc look s.ts s.w 1).1 = A at *
  generalize (acc look s.ts s.w 1).2 = E at *
  generalize s.w * D + sz D look s.ts = Z at *
  have : (p * (D * s.m)) * E = (Z * q) * E := by
    calc (p * (D * s.m)) * E = (p * (E * s.m)) * D := by grind
      _ = A * q * D := by rw [g1]
      _ = (A * D) * q := by grind
      _ = E * Z * q := by rw [e]
      _ = (Z * q) * E := by grind
  exact Int.eq_of_mul_eq_mul_right (by omega) this
/-- a point's numbers behind n deeds -/
structure PtN (n : Nat) (fs : List (Int × Int)) : Prop where
  ok : ∃ D : Int, 0 < D ∧ D.natAbs ≤ 2 ^ (2 * n + 4) ∧ ∀ f ∈ fs, Cd D (2 ^ (90 * n + 200)) f
theorem PtN.succ {n : Nat} {fs : List (Int × Int)} (h : PtN n fs) : PtN (n + 1) fs := by
  obtain ⟨D, h0, h1, h2⟩ := h.ok
  exact ⟨D, h0, Nat.le_trans h1 (Nat.pow_le_pow_right (by decide) (by omega)), fun f hf => (h2 f hf).mono (Nat.pow_le_pow_right (by decide) (by omega))⟩
theorem PtN.bd {n : Nat} {fs : List (Int × Int)} (h : PtN n fs) (hn : n ≤ 300) {f : Int × Int} (hf : f ∈ fs) : Fr f.1 f.2 ∧ Bd 27500 f.1 ∧ Bd 700 f.2 := by
  obtain ⟨D, h0, h1, h2⟩ := h.ok
  obtain ⟨g1, g2⟩ := (h2 f hf).small h0
  have p1 : 2 ^ (90 * n + 200) < 2 ^ 27500 := Nat.pow_lt_pow_right (by decide) (by omega)
  have p2 : 2 ^ (2 * n + 4) < 2 ^ 700 := Nat.pow_lt_pow_right (by decide) (by omega)
  have hp := (h2 f hf).fr.pos
  refine ⟨(h2 f hf).fr, Nat.lt_of_le_of_lt g1 p1, Nat.lt_of_le_of_lt (Nat.le_trans ?_ h1) p2⟩
  omega
/-- a name's new number from a sum -/
theorem PtN.worth {n : Nat} {fs : List (Int × Int)} (h : PtN n fs) {look : Nat → Int × Int} {s : Sm} (hs : ∀ x ∈ s.ts, look x.1 ∈ fs) (hw : ∀ x ∈ s.ts, Bd 80 x.2) (hl : s.ts.length ≤ 10) (hb : Bd 80 s.w) (m0 : 0 < s.m) (m1 : s.m ≤ 3) (hlow : 0 < (acc look s.ts s.w 1).2) : PtN (n + 1) (wv look s :: fs) := by
  obtain ⟨D, h0, h1, h2⟩ := h.ok
  have hx : ∀ x ∈ s.ts, Cd D (2 ^ (90 * n + 200)) (look x.1) := fun x hx => h2 _ (hs x hx)
  refine ⟨D * s.m, Int.mul_pos h0 m0, ?_, fun f hf => ?_⟩
  · rw [Int.natAbs_mul, show 2 * (n + 1) + 4 = (2 * n + 4) + 2 by omega, Nat.pow_add]
    exact Nat.mul_le_mul h1 (by omega)
  · have e1 : 2 ^ (90 * (n + 1) + 200) = 2 ^ (90 * n + 200) * 2 ^ 90 := by rw [← Nat.pow_add]; congr 1
    rcases List.mem_cons.mp hf with rfl | hf
    · refine (wv_cd h0 hx m0 hlow).mono ?_
      have t1 : (s.w * D).natAbs ≤ 2 ^ 80 * 2 ^ (90 * n + 200) := by
        rw [Int.natAbs_mul]
        exact Nat.mul_le_mul (Nat.le_of_lt hb) (Nat.le_trans h1 (Nat.pow_le_pow_right (by decide) (by omega)))
      have t2 := sz_bd hx hw
      have t3 := Int.natAbs_add_le (s.w * D) (sz D look s.ts)
      have t4 : s.ts.length * (2 ^ 80 * 2 ^ (90 * n + 200)) ≤ 10 * (2 ^ 80 * 2 ^ (90 * n + 200)) := Nat.mul_le_mul_right _ hl
      have t5 : 2 ^ (90 * n + 200) * 2 ^ 90 = 1024 * (2 ^ 80 * 2 ^ (90 * n + 200)) := by
        rw [show (2 : Nat) ^ 90 = 1024 * 2 ^ 80 by decide, Nat.mul_comm, Nat.mul_assoc]
      rw [e1, t5]
      omega
    · refine ((h2 f hf).mul m0 (m := 3) (by omega)).mono ?_
      rw [e1]
      exact Nat.mul_le_mul_left _ (by decide)
/-- .. from what is given -/
theorem PtN.given {n : Nat} {fs : List (Int × Int)} (h : PtN n fs) {p q : Int} (hf : Fr p q) (hp : p.natAbs ≤ 2 ^ 60) (hq : q ≤ 3) : PtN (n + 1) ((p, q) :: fs) := by
  obtain ⟨D, h0, h1, h2⟩ := h.ok
  have q0 := hf.pos
  refine ⟨D * q, Int.mul_pos h0 q0, ?_, fun f hf' => ?_⟩
  · rw [Int.natAbs_mul, show 2 * (n + 1) + 4 = (2 * n + 4) + 2 by omega, Nat.pow_add]
    exact Nat.mul_le_mul h1 (by omega)
  · have e1 : 2 ^ (90 * (n + 1) + 200) = 2 ^ (90 * n + 200) * 2 ^ 90 := by rw [← Nat.pow_add]; congr 1
    rcases List.mem_cons.mp hf' with rfl | hf'
    · refine (Cd.of (D := D * q) (Z := p * D) hf (by grind)).mono ?_
      rw [Int.natAbs_mul, e1, Nat.mul_comm]
      refine Nat.mul_le_mul (Nat.le_trans h1 (Nat.pow_le_pow_right (by decide) (by omega))) (Nat.le_trans hp (by decide))
    · refine ((h2 f hf').mul q0 (m := 3) (by omega)).mono ?_
      rw [e1]
      exact Nat.mul_le_mul_left _ (by decide)
end NK
set_option Elab.async false
set_option linter.all false
set_option autoImplicit false
set_option maxRecDepth 100000
namespace NK
open PySem L2
/-! RSt: a run's state, in the store and by itself -/
abbrev wGoing : W := [103, 111, 105, 110, 103]
abbrev wBroken : W := [98, 114, 111, 107, 101, 110]
abbrev wWanting : W := [119, 97, 110, 116, 105, 110, 103]
abbrev wDone : W := [100, 111, 110, 101]
abbrev wUnmet : W := [117, 110, 109, 101, 116]
structure RS where
  fs : List (Int × Int)
  tu : List Bool
  gi : List (Int × Int)
  dd : Nat
  pa : List (List Nat × List (Int × Int))
  ov : Option (W × List Nat)
def bI (b : Bool) : Nat := if b then 1 else 0
def tuD (b : Bool) : D := .int (bI b : Nat)
def paD (ns : List Nat) (q : List Nat × List (Int × Int)) : D := .tup [plcD q.1, .dK (ptK ns) (ptD q.2)]
def ovD (ns : List Nat) (r : RS) : D := match r.ov with
  | none => .non
  | some q => .tup [.str q.1, .lst (r.pa.map (paD ns)), plcD q.2, .dK (ptK ns) (ptD r.fs)]
/-- an instance's attributes -/
def fld (d : Int) (o : D) : List (W × Val) := [([112, 111, 105, 110, 116], .ref 1), ([116, 117, 114, 110, 115], .ref 2), ([103, 105, 118, 101, 110, 115], .ref 3), ([100, 101, 101, 100, 115], .dat (.int d)), ([112, 97, 115, 115, 101, 100], .ref 4), ([111, 118, 101, 114], .dat o)]
section
variable {d : Int} {o o' : D}
@[simp] theorem lk_p : (fld d o).lookup [112, 111, 105, 110, 116] = some (.ref 1) := rfl
@[simp] theorem lk_t : (fld d o).lookup [116, 117, 114, 110, 115] = some (.ref 2) := rfl
@[simp] theorem lk_g : (fld d o).lookup [103, 105, 118, 101, 110, 115] = some (.ref 3) := rfl
@[simp] theorem lk_d : (fld d o).lookup [100, 101, 101, 100, 115] = some (.dat (.int d)) := rfl
@[simp] theorem lk_a : (fld d o).lookup [112, 97, 115, 115, 101, 100] = some (.ref 4) := rfl
@[simp] theorem lk_o : (fld d o).lookup [111, 118, 101, 114] = some (.dat o) := rfl
@[simp] theorem lk_1 : (fld d o).lookup [115, 116, 111, 112, 115] = none := rfl
@[simp] theorem lk_2 : (fld d o).lookup [99, 111, 117, 110, 116, 115] = none := rfl
@[simp] theorem lk_3 : (fld d o).lookup [112, 97, 115, 115, 101, 115] = none := rfl
@[simp] theorem lk_4 : (fld d o).lookup [104, 101, 97, 100] = none := rfl
@[simp] theorem lk_5 : (fld d o).lookup [108, 111, 111, 112] = none := rfl
@[simp] theorem lk_6 : (fld d o).lookup [112, 108, 97, 105, 110] = none := rfl
@[simp] theorem lk_7 : (fld d o).lookup [115, 116, 97, 116, 101, 109, 101, 110, 116] = none := rfl
@[simp] theorem lk_8 : (fld d o).lookup [98, 108, 111, 99, 107] = none := rfl
@[simp] theorem fl_len : (fld d o).length = 6 := rfl
@[simp] theorem put_d {e : Int} : putA [100, 101, 101, 100, 115] (.dat (.int e)) (fld d o) = fld e o := rfl
@[simp] theorem put_o : putA [111, 118, 101, 114] (.dat o') (fld d o) = fld d o' := rfl
end
def paO (ns : List Nat) (r : RS) : Obj := match r.ov with
  | none => .lst (r.pa.map (paD ns))
  | some _ => .dead
def sto (ns : List Nat) (r : RS) : Sto := [.ins 1 (fld r.dd (ovD ns r)), .dK (ptK ns) (ptD r.fs), .lst (r.tu.map tuD), .lst (r.gi.map frD), paO ns r]
def stopsR (w : W) (p : List Nat) (r : RS) : RS := { r with ov := some (w, p) }
def passesR (p : List Nat) (r : RS) : RS := { r with pa := r.pa ++ [(p, r.fs)] }
def countsR (p : List Nat) (r : RS) : RS := if r.dd = 300 then stopsR wGoing p r else { r with dd := r.dd + 1 }
section
variable {ns : List Nat} {r : RS} {p : List Nat}
theorem sto_none (h : r.ov = none) : sto ns r = [.ins 1 (fld r.dd .non), .dK (ptK ns) (ptD r.fs), .lst (r.tu.map tuD), .lst (r.gi.map frD), .lst (r.pa.map (paD ns))] := by
  simp [sto, paO, ovD, h]
theorem c_stops (d : Nat) (h : r.ov = none) (w : W) : call PG (d + 1) 117 [.ref 0, .dat (.str w), .dat (plcD p)] (sto ns r) = some (.val (.dat .non), sto ns (stopsR w p r)) := by
  rw [call_goM F117 rfl rfl, sto_none h]
  simp [F117, startE, toDs, toD, fzO, sto, paO, ovD, stopsR]
theorem c_counts (d : Nat) (h : r.ov = none) : call PG (d + 2) 118 [.ref 0, .dat (plcD p)] (sto ns r) = some (.val (.dat (.bl (!decide (r.dd = 300)))), sto ns (countsR p r)) := by
  have e := c_stops d h (ns := ns) (p := p) wGoing
  rw [call_goM F118 rfl rfl]
  by_cases h3 : r.dd = 300
  · have h3' : (r.dd : Int) = 300 := by omega
    rw [sto_none h] at e ⊢
    simp [F118, startE, h3, h3', e, countsR]
    rw [h3] at e
    simp at e
    simp [e]
  · have h3' : ¬ (r.dd : Int) = 300 := by omega
    have hd : decide (r.dd = 300) = false := decide_eq_false h3
    rw [sto_none h, hd]
    simp [F118, startE, h3, h3', countsR, sto, paO, ovD, h]
theorem c_passes (d : Nat) (h : r.ov = none) (hl : r.pa.length ≤ 1000) : call PG (d + 1) 119 [.ref 0, .dat (plcD p)] (sto ns r) = some (.val (.dat .non), sto ns (passesR p r)) := by
  have h' : (passesR p r).ov = none := h
  have lim : r.pa.length < LIM := by unfold LIM; omega
  rw [call_goM F119 rfl rfl, sto_none h, sto_none h']
  simp [F119, startE, toDs, toD, fzO, passesR, lim, paD]
end
end NK
set_option Elab.async false
set_option linter.all false
set_option autoImplicit false
set_option maxRecDepth 100000
namespace NK
open PySem L2
/-! RStep: what a run does, statement by statement -/
def updP : List Nat → List (Int × Int) → Nat → Int × Int → List (Int × Int)
  | n :: ns, f :: fs, c, v => (if n = c then v else f) :: updP ns fs c v
  | _, _, _, _ => []
theorem updP_len : ∀ {ns : List Nat} {fs : List (Int × Int)} {c : Nat} {v : Int × Int}, fs.length = ns.length → (updP ns fs c v).length = ns.length
  | [], _, _, _, _ => rfl
  | n :: ns, [], _, _, h => by simp at h
  | n :: ns, f :: fs, c, v, h => by
    simp only [updP, List.length_cons]
    rw [updP_len (by simpa using h)]
theorem updP_mem : ∀ {ns : List Nat} {fs : List (Int × Int)} {c : Nat} {v x : Int × Int}, x ∈ updP ns fs c v → x = v ∨ x ∈ fs
  | [], _, _, _, _, h => by simp [updP] at h
  | n :: ns, [], _, _, _, h => by simp [updP] at h
  | n :: ns, f :: fs, c, v, x, h => by
    simp only [updP, List.mem_cons] at h
    rcases h with h | h
    · split at h
      · exact .inl h
      · exact .inr (h ▸ List.mem_cons_self)
    · rcases updP_mem h with e | e
      · exact .inl e
      · exact .inr (List.mem_cons_of_mem _ e)
theorem dset_pt : ∀ {ns : List Nat} {fs : List (Int × Int)} {c : Nat} {v : Int × Int}, dsetK (ptK ns) (ptD fs) (.inr [c]) (frD v) = ptD (updP ns fs c v)
  | [], fs, c, v => by cases fs <;> rfl
  | n :: ns, [], c, v => rfl
  | n :: ns, f :: fs, c, v => by
    show (if (Sum.inr [n] : K1) = .inr [c] then frD v else frD f) :: dsetK (ptK ns) (ptD fs) (.inr [c]) (frD v) = _
    rw [dset_pt]
    by_cases e : n = c
    · subst e; simp [updP, ptD]
    · have e2 : ¬ (Sum.inr [n] : K1) = .inr [c] := by simpa using e
      rw [if_neg e2]
      simp [updP, ptD, e]
theorem dput_pt {ns : List Nat} {fs : List (Int × Int)} {c : Nat} {v : Int × Int} (h : c ∈ ns) : dputK (ptK ns) (ptD fs) (.inr [c]) (frD v) = (ptK ns, ptD (updP ns fs c v)) := by
  unfold dputK
  rw [if_pos (ptK_mem.mpr h), dset_pt]
/-- a run between two deeds (e = 0), or with a deed counted that is not done yet (e = 1) -/
structure RI (ns : List Nat) (e : Nat) (r : RS) : Prop where
  nd : ns.Nodup
  nl : ns.length ≤ 10
  ln : r.fs.length = ns.length
  pt : ∃ m, m + e = r.dd ∧ PtN m r.fs
  dd : r.dd ≤ 300
  pa : r.pa.length + e ≤ r.dd
  gi : ∀ f ∈ r.gi, Fr f.1 f.2 ∧ f.1.natAbs ≤ 2 ^ 60 ∧ f.2 ≤ 3
section
variable {ns : List Nat} {e : Nat} {r : RS} {p : List Nat}
theorem RI.down (h : RI ns 1 r) : RI ns 0 r := by
  obtain ⟨a, b, c, ⟨m, h1, h2⟩, d, f, g⟩ := h
  exact ⟨a, b, c, ⟨m + 1, h1, h2.succ⟩, d, by omega, g⟩
theorem RI.up (h : RI ns 0 r) (h3 : ¬ r.dd = 300) : RI ns 1 { r with dd := r.dd + 1 } := by
  obtain ⟨a, b, c, ⟨m, h1, h2⟩, d, f, g⟩ := h
  exact ⟨a, b, c, ⟨m, by dsimp only; omega, h2⟩, by dsimp only; omega, by dsimp only; omega, g⟩
theorem RI.stops (h : RI ns e r) {w : W} : RI ns e (stopsR w p r) := by
  obtain ⟨a, b, c, h1, d, f, g⟩ := h
  exact ⟨a, b, c, h1, d, f, g⟩
theorem RI.passes (h : RI ns 1 r) : RI ns 0 (passesR p r) := by
  have h0 := h.down
  obtain ⟨a, b, c, h1, d, f, g⟩ := h0
  have := h.pa
  exact ⟨a, b, c, h1, d, by simp [passesR]; omega, g⟩
theorem RI.ptG (h : RI ns e r) {pv : Val} (hp : pv = .bor (.dK (ptK ns) (ptD r.fs)) ∨ pv = .dat (.dK (ptK ns) (ptD r.fs))) : PtG pv (lookP ns r.fs) ns := by
  obtain ⟨m, h1, h2⟩ := h.pt
  refine ⟨?_, fun c hc st => ?_, fun c hc st => ?_, fun c hc => h2.bd (by have := h.dd; omega) (dlook_pt h.ln hc).2⟩
  · rcases hp with rfl | rfl
    · exact .inl ⟨_, _, rfl⟩
    · exact .inr ⟨_, _, rfl⟩
  · have e := (dlook_pt h.ln hc).1
    rcases hp with rfl | rfl
    · exact e
    · exact e
  · have e := (dlook_pt h.ln hc).1
    rcases hp with rfl | rfl
    · simp [cmpV, cmpV.inV, snap, nmD, toK, e]
    · simp [cmpV, cmpV.inV, snap, nmD, toK, e]
theorem RI.set (h : RI ns 1 r) {c : Nat} {v : Int × Int} (hv : ∀ m, PtN m r.fs → PtN (m + 1) (v :: r.fs)) : RI ns 0 { r with fs := updP ns r.fs c v } := by
  obtain ⟨a, b, c, ⟨m, h1, h2⟩, d, f, g⟩ := h
  refine ⟨a, b, updP_len c, ⟨m + 1, h1, ?_⟩, d, by dsimp only; omega, g⟩
  obtain ⟨D, d0, d1, d2⟩ := (hv m h2).ok
  exact ⟨D, d0, d1, fun f hf => d2 f (by
    rcases updP_mem hf with e | e
    · exact e ▸ List.mem_cons_self
    · exact List.mem_cons_of_mem _ e)⟩
theorem RI.worth (h : RI ns e r) {s : Sm} (hs : SmG ns s) : ∀ m, PtN m r.fs → PtN (m + 1) (wv (lookP ns r.fs) s :: r.fs) := fun m hm =>
  hm.worth (fun x hx => (dlook_pt h.ln (hs.ts.mem x hx)).2) hs.ts.bd hs.len hs.w hs.m0 hs.m1 (acc_lowG (h.ptG (.inr rfl)) hs.ts (by decide))
theorem RI.wbd (h : RI ns 1 r) {s : Sm} (hs : SmG ns s) : Fr (wv (lookP ns r.fs) s).1 (wv (lookP ns r.fs) s).2 ∧ Bd 27500 (wv (lookP ns r.fs) s).1 ∧ Bd 700 (wv (lookP ns r.fs) s).2 := by
  obtain ⟨m, h1, h2⟩ := h.pt
  exact (h.worth hs m h2).bd (by have := h.dd; omega) List.mem_cons_self
end
def meaB (look : Nat → Int × Int) (row : Row) (la : Option (Int × Int)) : Option (Sm × Int) → Bool
  | none => true
  | some f => fallB look f la && (!soR look row || !ltF (wv look f.1) (0, 1))
def headR (ns : List Nat) (row : Row) (rs : List Row) (f : Option (Sm × Int)) (p : List Nat) (la : Option (Int × Int)) (r : RS) : Bool × RS :=
  (soR (lookP ns r.fs) row, if rs.all (soR (lookP ns r.fs)) && meaB (lookP ns r.fs) row la f then passesR p r else stopsR wBroken p r)
def lastR (ns : List Nat) (f : Option (Sm × Int)) (r : RS) (la : Option (Int × Int)) : Option (Int × Int) := match f with
  | none => la
  | some f => some (wv (lookP ns r.fs) f.1)
def loopR (B : List Nat → RS → RS) (ns : List Nat) (row : Row) (rs : List Row) (f : Option (Sm × Int)) (p : List Nat) : Nat → Option (Int × Int) → RS → RS
  | 0, _, r => r
  | n + 1, la, r => match r.ov with
    | some _ => r
    | none => if r.dd = 300 then stopsR wGoing p r else
      if (headR ns row rs f p la { r with dd := r.dd + 1 }).1 && (headR ns row rs f p la { r with dd := r.dd + 1 }).2.ov.isNone then
        loopR B ns row rs f p n (lastR ns f (headR ns row rs f p la { r with dd := r.dd + 1 }).2 la) (B (p ++ [0]) (headR ns row rs f p la { r with dd := r.dd + 1 }).2)
      else (headR ns row rs f p la { r with dd := r.dd + 1 }).2
theorem loopR_go {B : List Nat → RS → RS} {ns : List Nat} {row : Row} {rs : List Row} {f : Option (Sm × Int)} {p : List Nat} {n : Nat} {la : Option (Int × Int)} {r r1 : RS} (ho : r.ov = none) (h3 : ¬ r.dd = 300) (h1 : r1 = { r with dd := r.dd + 1 }) : loopR B ns row rs f p (n + 1) la r = if (headR ns row rs f p la r1).1 && (headR ns row rs f p la r1).2.ov.isNone then loopR B ns row rs f p n (lastR ns f (headR ns row rs f p la r1).2 la) (B (p ++ [0]) (headR ns row rs f p la r1).2) else (headR ns row rs f p la r1).2 := by
  subst h1
  obtain ⟨fs, tu, gi, dd, pa, ov⟩ := r
  dsimp only at ho h3
  subst ho
  simp only [loopR, if_neg h3]
def cntR (p : List Nat) (r : RS) (k : RS → RS) : RS := if r.dd = 300 then stopsR wGoing p r else k { r with dd := r.dd + 1 }
def anyR (ns : List Nat) (x : Nat) (p : List Nat) (r : RS) : RS := match r.gi with
  | [] => stopsR wWanting p r
  | g :: gi => { r with fs := updP ns r.fs x g, gi := gi }
def choR (A B : RS → RS) (p : List Nat) (r : RS) : RS := match r.tu with
  | [] => stopsR wWanting p r
  | t :: tu => if t then B { r with tu := tu } else A { r with tu := tu }
mutual
def stR (ns : List Nat) : Stm → List Nat → RS → RS
  | .set x s, p, r => cntR p r fun r => { r with fs := updP ns r.fs x (wv (lookP ns r.fs) s) }
  | .any x, p, r => cntR p r (anyR ns x p)
  | .note rs, p, r => cntR p r fun r => if rs.all (soR (lookP ns r.fs)) then passesR p r else stopsR wBroken p r
  | .cho a b, p, r => cntR p r (choR (fun s => blkR ns a (p ++ [0]) 0 s) (fun s => blkR ns b (p ++ [1]) 0 s) p)
  | .ite row a b, p, r => cntR p r fun r => if soR (lookP ns r.fs) row then blkR ns a (p ++ [0]) 0 r else blkR ns b (p ++ [1]) 0 r
  | .whl row rs f b, p, r => loopR (fun q s => blkR ns b q 0 s) ns row rs f p 301 none r
def blkR (ns : List Nat) : List Stm → List Nat → Nat → RS → RS
  | [], _, _, r => r
  | s :: b, p, k, r => blkR ns b p (k + 1) (match r.ov with
    | none => stR ns s (p ++ [k]) r
    | some _ => r)
end
mutual
def gS (ns : List Nat) : Stm → Prop
  | .set x s => x ∈ ns ∧ SmG ns s
  | .any x => x ∈ ns
  | .note rs => ∀ r ∈ rs, RwG ns r
  | .cho a b => gB ns a ∧ gB ns b
  | .ite r a b => RwG ns r ∧ gB ns a ∧ gB ns b
  | .whl r rs f b => RwG ns r ∧ (∀ r ∈ rs, RwG ns r) ∧ (∀ p, f = some p → FeG ns p) ∧ gB ns b
def gB (ns : List Nat) : List Stm → Prop
  | [] => True
  | s :: b => gS ns s ∧ gB ns b
end
theorem gB_mem {ns : List Nat} : ∀ {b : List Stm}, gB ns b → ∀ s ∈ b, gS ns s
  | [], _, s, h => by simp at h
  | t :: b, hb, s, h => by
    simp only [gB] at hb
    rcases List.mem_cons.mp h with e | h
    · exact e ▸ hb.1
    · exact gB_mem hb.2 s h
theorem depB_mem : ∀ {b : List Stm}, ∀ s ∈ b, depS s ≤ depB b
  | [], s, h => by simp at h
  | t :: b, s, h => by
    simp only [depB]
    rcases List.mem_cons.mp h with e | h
    · rw [e]; omega
    · have := depB_mem (b := b) s h; omega
section
@[simp] theorem c_isRN {l : Nat} {st : Sto} : cmpV .is (.ref l) (.dat .non) st = some false := rfl
end
section
variable {ns : List Nat} {r : RS} {p : List Nat}
@[simp] theorem laD_some {x : Int × Int} : laD (some x) = frD x := rfl
theorem cut14 {a b c d e : D} : cutL [a, b, c, d, e] (some 1) (some 4) = [b, c, d] := rfl
/-- a loop's last worth is small -/
def LaOk (la : Option (Int × Int)) : Prop := ∀ x, la = some x → Fr x.1 x.2 ∧ Bd 27500 x.1 ∧ Bd 700 x.2
theorem c_head (d : Nat) (h : RI ns 1 r) (ho : r.ov = none) {row : Row} {rs : List Row} {f : Option (Sm × Int)} {b : List Stm} {la : Option (Int × Int)} (g1 : RwG ns row) (g2 : ∀ r ∈ rs, RwG ns r) (g3 : ∀ p, f = some p → FeG ns p) (hla : LaOk la) :
    call PG (d + 7) 121 [.ref 0, .dat (sD (.whl row rs f b)), .dat (plcD p), .dat (laD la)] (sto ns r) = some (.val (.dat (.bl (headR ns row rs f p la r).1)), sto ns (headR ns row rs f p la r).2) := by
  have hp := h.ptG (pv := .bor (.dK (ptK ns) (ptD r.fs))) (.inl rfl)
  have e1 := c_so (d + 2) hp g1
  have e2 := c_all (d + 1) hp g2
  have e5 := c_passes (p := p) (d + 5) ho (ns := ns) (by have := h.pa; have := h.dd; omega)
  have e6 := c_stops (p := p) (d + 5) ho (ns := ns) wBroken
  unfold headR
  rw [call_goM F121 rfl rfl]
  rw [sto_none ho] at e5 e6 ⊢
  cases f with
  | none =>
    generalize soR (lookP ns r.fs) row = so at *
    generalize rs.all (soR (lookP ns r.fs)) = al at *
    cases al <;> simp [F121, F121i0, F121i1, startE, sD, feD, cut14, e1, e2, e5, e6, meaB]
  | some f =>
    have gf := g3 f rfl
    have hw := h.wbd gf.s
    have e3 := c_falls (d + 2) hp gf hw.2 (l := la) hla
    have e4 := (c_wv (d + 3) hp gf.s).1
    have one : Bd 1 1 := bd_lit
    have nil : Bd 1 0 := bd_lit
    have e7 := c_less (d + 5) (wv (lookP ns r.fs) f.1).1 (wv (lookP ns r.fs) f.1).2 0 1 (okMul_bd hw.2.1 one) (okMul_bd nil hw.2.2)
    have e8 : decide ((wv (lookP ns r.fs) f.1).1 * 1 < 0 * (wv (lookP ns r.fs) f.1).2) = ltF (wv (lookP ns r.fs) f.1) (0, 1) := rfl
    rw [e8] at e7
    simp only [feD] at e3
    simp only [frD] at e4
    simp only [sD, feD]
    have hm : meaB (lookP ns r.fs) row la (some f) = (fallB (lookP ns r.fs) f la && (!soR (lookP ns r.fs) row || !ltF (wv (lookP ns r.fs) f.1) (0, 1))) := rfl
    clear hw e8
    generalize meaB (lookP ns r.fs) row la (some f) = mm at *
    generalize soR (lookP ns r.fs) row = so at *
    generalize rs.all (soR (lookP ns r.fs)) = al at *
    generalize fallB (lookP ns r.fs) f la = fa at *
    generalize ltF (wv (lookP ns r.fs) f.1) (0, 1) = lt at *
    subst hm
    cases al <;> cases fa <;> cases so <;> cases lt <;> simp [F121, F121i0, F121i1, startE, cut14, e1, e2, e3, e4, e5, e6, e7]
/-- a block is done as told -/
def BSnd (D : Nat) (ns : List Nat) (b : List Stm) (p : List Nat) : Prop := ∀ r, RI ns 0 r → r.ov = none → call PG D 125 [.ref 0, .dat (.tup (bD b)), .dat (plcD p)] (sto ns r) = some (.val (.dat .non), sto ns (blkR ns b p 0 r)) ∧ RI ns 0 (blkR ns b p 0 r) ∧ r.dd ≤ (blkR ns b p 0 r).dd
theorem headR_le (h : RI ns 1 r) {row : Row} {rs : List Row} {f : Option (Sm × Int)} {la : Option (Int × Int)} : RI ns 0 (headR ns row rs f p la r).2 ∧ (headR ns row rs f p la r).2.dd = r.dd ∧ (headR ns row rs f p la r).2.fs = r.fs := by
  unfold headR
  dsimp only
  split
  · exact ⟨h.passes, rfl, rfl⟩
  · exact ⟨h.down.stops, rfl, rfl⟩
theorem wh_loop (d : Nat) {row : Row} {rs : List Row} {f : Option (Sm × Int)} {b : List Stm} (hp : p.length ≤ 1000) (g1 : RwG ns row) (g2 : ∀ r ∈ rs, RwG ns r) (g3 : ∀ p, f = some p → FeG ns p) (hB : BSnd (d + 7) ns b (p ++ [0])) : ∀ (n : Nat) (la : Option (Int × Int)) (r : RS), RI ns 0 r → 301 ≤ n + r.dd → LaOk la → ∃ y3 y4,
    WH (call PG (d + 7)) (.and (.var 4) (.and (.cmp .is (.attr 1 (.var 0) [111, 118, 101, 114]) .non) (.meth 1 118 [99, 111, 117, 110, 116, 115] (.var 0) [(.var 2)]))) F122b0 [some (.ref 0), some (.dat (sD (.whl row rs f b))), some (.dat (plcD p)), some (.dat (laD la)), some (.dat (.bl true))] (sto ns r) =
      some (.nx [some (.ref 0), some (.dat (sD (.whl row rs f b))), some (.dat (plcD p)), y3, y4] (sto ns (loopR (fun q s => blkR ns b q 0 s) ns row rs f p n la r))) ∧ RI ns 0 (loopR (fun q s => blkR ns b q 0 s) ns row rs f p n la r) ∧ r.dd ≤ (loopR (fun q s => blkR ns b q 0 s) ns row rs f p n la r).dd
  | 0, la, r, h, hn, _ => by have := h.dd; omega
  | n + 1, la, r, h, hn, hla => by
    cases ho : r.ov with
    | some q =>
      refine ⟨some (.dat (laD la)), some (.dat (.bl true)), ?_, ?_⟩
      · unfold WH
        refine whV_f _ _ (st' := sto ns r) ?_ |>.trans ?_
        · simp [sto, ovD, ho]
        · simp only [loopR, ho]
      · simp only [loopR, ho]
        exact ⟨h, Nat.le_refl _⟩
    | none =>
      have ec := c_counts (p := p) (d + 5) ho (ns := ns)
      by_cases h3 : r.dd = 300
      · refine ⟨some (.dat (laD la)), some (.dat (.bl true)), ?_, ?_⟩
        · unfold WH
          refine whV_f _ _ (st' := sto ns (stopsR wGoing p r)) ?_ |>.trans ?_
          · have : countsR p r = stopsR wGoing p r := by unfold countsR; rw [if_pos h3]
            rw [this, sto_none ho] at ec
            rw [sto_none ho]
            simp [h3] at ec
            simp [ec, h3]
          · simp only [loopR, ho, if_pos h3]
        · simp only [loopR, ho, if_pos h3]
          exact ⟨h.stops, Nat.le_refl _⟩
      · have h1 := h.up h3
        have e1 : countsR p r = { r with dd := r.dd + 1 } := by unfold countsR; rw [if_neg h3]
        have hcond : ∀ (x3 : Option Val), ((evE (call PG (d + 7)) (.and (.var 4) (.and (.cmp .is (.attr 1 (.var 0) [111, 118, 101, 114]) .non) (.meth 1 118 [99, 111, 117, 110, 116, 115] (.var 0) [(.var 2)]))) [some (.ref 0), some (.dat (sD (.whl row rs f b))), some (.dat (plcD p)), x3, some (.dat (.bl true))] (sto ns r)).bind boolR) = some (true, sto ns { r with dd := r.dd + 1 }) := fun x3 => by
          rw [e1, sto_none ho] at ec
          rw [sto_none ho]
          have hd : decide (r.dd = 300) = false := decide_eq_false h3
          rw [hd] at ec
          simp at ec
          simp [ec]
        generalize hr1 : ({ r with dd := r.dd + 1 } : RS) = r1 at *
        rw [loopR_go ho h3 hr1.symm]
        have ho1 : r1.ov = none := by rw [← hr1]; exact ho
        have hd1 : r1.dd = r.dd + 1 := by rw [← hr1]
        have eh := c_head (p := p) d h1 ho1 (b := b) (la := la) g1 g2 g3 hla
        obtain ⟨h2, hd2, hf2⟩ := headR_le (p := p) h1 (row := row) (rs := rs) (f := f) (la := la)
        generalize hhead : headR ns row rs f p la r1 = q at *
        obtain ⟨so, r2⟩ := q
        dsimp only at eh h2 hd2 hf2 ⊢
        have hdone : (so && r2.ov.isNone) = false → evSs (call PG (d + 7)) F122b0 [some (.ref 0), some (.dat (sD (.whl row rs f b))), some (.dat (plcD p)), some (.dat (laD la)), some (.dat (.bl true))] (sto ns r1) = some (.nx [some (.ref 0), some (.dat (sD (.whl row rs f b))), some (.dat (plcD p)), some (.dat (laD la)), some (.dat (.bl so))] (sto ns r2)) := fun hz => by
          rw [sto_none ho1] at eh ⊢
          cases so with
          | false => simp [F122b0, F122i0, eh]
          | true =>
            cases ho2 : r2.ov with
            | none => rw [ho2] at hz; simp at hz
            | some z =>
              have : sto ns r2 = [.ins 1 (fld r2.dd (ovD ns r2)), .dK (ptK ns) (ptD r2.fs), .lst (r2.tu.map tuD), .lst (r2.gi.map frD), paO ns r2] := rfl
              rw [this] at eh ⊢
              simp [F122b0, F122i0, eh, ovD, ho2]
        cases hg : (so && r2.ov.isNone) with
        | false =>
          refine ⟨some (.dat (laD la)), some (.dat (.bl so)), ?_, by rw [if_neg (by simp)]; exact h2, by rw [if_neg (by simp)]; omega⟩
          rw [if_neg (by simp)]
          unfold WH
          refine (whV_t _ _ (hcond _) (hdone hg)).trans (whV_f _ _ (st' := sto ns r2) ?_)
          cases so with
          | false => simp
          | true =>
            cases ho2 : r2.ov with
            | none => rw [ho2] at hg; simp at hg
            | some z => simp [sto, ovD, ho2]
        | true =>
          rw [if_pos rfl]
          obtain ⟨rfl, ho2⟩ : so = true ∧ r2.ov = none := by
            rw [Bool.and_eq_true] at hg
            refine ⟨hg.1, ?_⟩
            cases ho2 : r2.ov with
            | none => rfl
            | some z => rw [ho2] at hg; simp at hg
          obtain ⟨eb, h4, hd4⟩ := hB r2 h2 ho2
          have hla' : LaOk (lastR ns f r2 la) := by
            unfold lastR
            cases f with
            | none => exact hla
            | some f =>
              intro x hx
              cases hx
              rw [hf2]
              exact h1.wbd (g3 f rfl).s
          obtain ⟨y3, y4, ih, i2, i3⟩ := wh_loop d (b := b) hp g1 g2 g3 hB n (lastR ns f r2 la) (blkR ns b (p ++ [0]) 0 r2) h4 (by omega) hla'
          refine ⟨y3, y4, ?_, i2, by omega⟩
          rw [← ih]
          unfold WH
          refine whV_t _ _ (hcond _) ?_
          have hpt := h2.ptG (pv := .bor (.dK (ptK ns) (ptD r2.fs))) (.inl rfl)
          have hpp := plcD_app (p := p) (k := 0) hp (st := sto ns r2)
          rw [sto_none ho1] at eh ⊢
          rw [sto_none ho2] at eh eb hpp
          cases f with
          | none =>
            simp only [sD, feD] at eh eb ⊢
            have hpp' : binV .add (.dat (plcD p)) (.dat (.tup [.int 0])) [.ins 1 (fld r2.dd .non), .dK (ptK ns) (ptD r2.fs), .lst (r2.tu.map tuD), .lst (r2.gi.map frD), .lst (r2.pa.map (paD ns))] = some (.dat (plcD (p ++ [0]))) := hpp
            simp [F122b0, F122i0, F122i1, eh, eb, hpp', lastR]
          | some f =>
            have e4 := (c_wv (d + 4) hpt (g3 f rfl).s).1
            simp only [sD, feD] at eh eb e4 ⊢
            have hpp' : binV .add (.dat (plcD p)) (.dat (.tup [.int 0])) [.ins 1 (fld r2.dd .non), .dK (ptK ns) (ptD r2.fs), .lst (r2.tu.map tuD), .lst (r2.gi.map frD), .lst (r2.pa.map (paD ns))] = some (.dat (plcD (p ++ [0]))) := hpp
            simp [F122b0, F122i0, F122i1, eh, eb, e4, hpp', lastR]
/-- a statement is done as told -/
def SSnd (D : Nat) (ns : List Nat) (s : Stm) (p : List Nat) : Prop := ∀ r, RI ns 0 r → r.ov = none → call PG D 124 [.ref 0, .dat (sD s), .dat (plcD p)] (sto ns r) = some (.val (.dat .non), sto ns (stR ns s p r)) ∧ RI ns 0 (stR ns s p r) ∧ r.dd ≤ (stR ns s p r).dd
theorem for_block {C : Calls} {B : List Stm} (hp : p.length ≤ 1000) : ∀ {b : List Stm} {k : Nat} {r : RS} {x3 : Option Val}, B.drop k = b → (∀ s ∈ b, ∀ k, ∀ r, RI ns 0 r → r.ov = none → C 124 [.ref 0, .dat (sD s), .dat (plcD (p ++ [k]))] (sto ns r) = some (.val (.dat .non), sto ns (stR ns s (p ++ [k]) r)) ∧ RI ns 0 (stR ns s (p ++ [k]) r) ∧ r.dd ≤ (stR ns s (p ++ [k]) r).dd) → RI ns 0 r →
    ∃ y3, FOR C [3] false F125b0 ((List.range' k b.length).map fun (i : Nat) => D.int i) [some (.ref 0), some (.dat (.tup (bD B))), some (.dat (plcD p)), x3] (sto ns r) = some (.nx [some (.ref 0), some (.dat (.tup (bD B))), some (.dat (plcD p)), y3] (sto ns (blkR ns b p k r))) ∧ RI ns 0 (blkR ns b p k r) ∧ r.dd ≤ (blkR ns b p k r).dd
  | [], k, r, x3, _, _, h => ⟨x3, by simp [FOR_nil, blkR], by simpa [blkR] using h, by simp [blkR]⟩
  | s :: b, k, r, x3, hk, hs, h => by
    have hat : at? (bD B) (k : Int) = some (sD s) := by
      rw [at_nat, bD_map, List.getElem?_map]
      have := congrArg List.head? hk
      rw [List.head?_drop] at this
      rw [this]; rfl
    have hk' : B.drop (k + 1) = b := by
      have := congrArg List.tail hk
      rwa [List.tail_drop] at this
    have hpp := plcD_app (p := p) (k := k) hp (st := sto ns r)
    simp only [blkR]
    rw [List.length_cons, List.range'_succ, List.map_cons, FOR_cons]
    cases ho : r.ov with
    | some z =>
      obtain ⟨y3, ih, i2, i3⟩ := for_block hp (C := C) (b := b) (k := k + 1) (r := r) (x3 := some (.dat (.int k))) hk' (fun s hs' => hs s (List.mem_cons_of_mem _ hs')) h
      refine ⟨y3, ?_, i2, i3⟩
      dsimp only
      rw [← ih]
      simp [F125b0, F125i0, sto, ovD, ho]
    | none =>
      obtain ⟨es, h2, hd2⟩ := hs s List.mem_cons_self k r h ho
      obtain ⟨y3, ih, i2, i3⟩ := for_block hp (C := C) (b := b) (k := k + 1) (r := stR ns s (p ++ [k]) r) (x3 := some (.dat (.int k))) hk' (fun s hs' => hs s (List.mem_cons_of_mem _ hs')) h2
      refine ⟨y3, ?_, i2, by dsimp only; omega⟩
      dsimp only
      rw [← ih]
      rw [sto_none ho] at es hpp ⊢
      simp [F125b0, F125i0, hat, hpp, es]
theorem blk_of {D : Nat} {b : List Stm} (hp : p.length ≤ 1000) (hl : b.length ≤ 1000) (h : ∀ s ∈ b, ∀ k, SSnd D ns s (p ++ [k])) : BSnd (D + 1) ns b p := by
  intro r hI ho
  obtain ⟨y3, hf, h2, h3⟩ := for_block (C := call PG D) (B := b) hp (b := b) (k := 0) (r := r) (x3 := none) rfl (fun s hs k => h s hs k) hI
  refine ⟨?_, h2, h3⟩
  have hr : rngOk 0 (b.length : Int) = true := rngOk_small (by decide) (by omega) (by omega) (by decide)
  have e : rngL 0 (b.length : Int) = (List.range' 0 b.length).map fun (i : Nat) => NK.D.int i := by
    unfold rngL
    rw [List.range_eq_range']
    simp
  have hl' : (bD b).length = b.length := by rw [bD_map, List.length_map]
  rw [call_goM F125 rfl rfl]
  simp [F125, startE, hl', hr, e, hf]
theorem pop0 {n : Nat} : ix (n + 1) 0 = some 0 := by simp [ix]
theorem eq_nil {st : Sto} {l : Nat} {ds : List D} (h : st[l]? = some (.lst ds)) (hn : nods ds = true) : cmpV .eq (.ref l) (.dat (.lst [])) st = some ds.isEmpty := by
  rw [c_eq_of (a := .lst ds) (b := .lst []) (by simp [h]) rfl ?_]
  · cases ds <;> simp [eqD, eqDs]
  · simp [eqOk, nod, nods, dep, deps, hn]
theorem nods_tu : ∀ tu : List Bool, nods (tu.map tuD) = true
  | [] => rfl
  | b :: tu => by simp [nods, tuD, nod, nods_tu tu]
theorem nods_gi (gi : List (Int × Int)) : nods (gi.map frD) = true := (nods_pt gi).1
theorem cntR_le {k : RS → RS} (h : RI ns 0 r) (ho : r.ov = none) (hk : ∀ r1, RI ns 1 r1 → r1.ov = none → r1.dd = r.dd + 1 → RI ns 0 (k r1) ∧ r1.dd ≤ (k r1).dd) : RI ns 0 (cntR p r k) ∧ r.dd ≤ (cntR p r k).dd := by
  unfold cntR
  split
  · exact ⟨h.stops, Nat.le_refl _⟩
  · rename_i h3
    obtain ⟨a, b⟩ := hk _ (h.up h3) ho rfl
    exact ⟨a, by dsimp only at b; omega⟩
/-- a statement that is no loop -/
theorem plain_of {D : Nat} {s : Stm} {k : RS → RS} (hs : ∀ x y z w, s ≠ .whl x y z w) (hd : 2 ≤ D) (hk : ∀ r, RI ns 1 r → r.ov = none → call PG (D + 1) 123 [.ref 0, .dat (sD s), .dat (plcD p)] (sto ns r) = some (.val (.dat .non), sto ns (k r)) ∧ RI ns 0 (k r) ∧ r.dd ≤ (k r).dd) (e : ∀ r, stR ns s p r = cntR p r k) : SSnd (D + 2) ns s p := by
  intro r h ho
  obtain ⟨d0, rfl⟩ : ∃ m, D = m + 2 := ⟨D - 2, by omega⟩
  rw [e]
  refine ⟨?_, cntR_le h ho fun r1 a b c => (hk r1 a b).2⟩
  have ec := c_counts (p := p) (d0 + 1) ho (ns := ns)
  have hw : ∃ w es, sD s = .tup (.str w :: es) ∧ (w == wWhl) = false := by
    cases s with
    | whl x y z w => exact absurd rfl (hs x y z w)
    | set x s => exact ⟨wSet, [nmD x, smD s], by simp only [sD], by decide⟩
    | any x => exact ⟨wAny, [nmD x], by simp only [sD], by decide⟩
    | note rs => exact ⟨wNote, [.tup (rs.map rD)], by simp only [sD], by decide⟩
    | cho a b => exact ⟨wCho, [.tup (bD a), .tup (bD b)], by simp only [sD], by decide⟩
    | ite r a b => exact ⟨wIf, [rD r, .tup (bD a), .tup (bD b)], by simp only [sD], by decide⟩
  obtain ⟨w, es, hw1, hw2⟩ := hw
  rw [call_goM F124 rfl rfl]
  by_cases h3 : r.dd = 300
  · have e1 : countsR p r = stopsR wGoing p r := by unfold countsR; rw [if_pos h3]
    have e2 : cntR p r k = stopsR wGoing p r := by unfold cntR; rw [if_pos h3]
    rw [e1] at ec
    rw [e2]
    rw [sto_none ho] at ec ⊢
    have hd : decide (r.dd = 300) = true := decide_eq_true h3
    rw [hd] at ec
    simp only [hw1] at ec ⊢
    simp [F124, F124i0, F124i1, startE, hw2, ec]
  · have e1 : countsR p r = { r with dd := r.dd + 1 } := by unfold countsR; rw [if_neg h3]
    have e2 : cntR p r k = k { r with dd := r.dd + 1 } := by unfold cntR; rw [if_neg h3]
    have h1 := h.up h3
    obtain ⟨ek, _, _⟩ := hk { r with dd := r.dd + 1 } h1 ho
    rw [e1] at ec
    rw [e2]
    have ho1 : ({ r with dd := r.dd + 1 } : RS).ov = none := ho
    generalize ({ r with dd := r.dd + 1 } : RS) = r1 at *
    have hd : decide (r.dd = 300) = false := decide_eq_false h3
    rw [hd] at ec
    rw [sto_none ho1] at ec ek
    rw [sto_none ho] at ec ⊢
    simp only [hw1] at ec ek ⊢
    simp [F124, F124i0, F124i1, startE, hw2, ec, ek]
end
end NK
set_option Elab.async false
set_option linter.all false
set_option autoImplicit false
set_option maxRecDepth 100000
namespace NK
open PySem L2
/-! RStep2: each statement of a run, whole blocks, the run -/
section
variable {ns : List Nat} {r : RS} {p : List Nat}
theorem p_set (d : Nat) {x : Nat} {s : Sm} (hx : x ∈ ns) (hs : SmG ns s) (h : RI ns 1 r) (ho : r.ov = none) : call PG (d + 4) 123 [.ref 0, .dat (sD (.set x s)), .dat (plcD p)] (sto ns r) = some (.val (.dat .non), sto ns { r with fs := updP ns r.fs x (wv (lookP ns r.fs) s) }) := by
  have hp := h.ptG (pv := .bor (.dK (ptK ns) (ptD r.fs))) (.inl rfl)
  have e4 := (c_wv d hp hs).1
  have hput := dput_pt (fs := r.fs) (v := wv (lookP ns r.fs) s) hx
  have hlim : (ptK ns).length < LIM := by
    have := h.nl
    unfold ptK LIM
    rw [List.length_map]
    omega
  have ho' : ({ r with fs := updP ns r.fs x (wv (lookP ns r.fs) s) } : RS).ov = none := ho
  rw [call_goM F123 rfl rfl, sto_none ho, sto_none ho']
  simp only [sD]
  simp [F123, F123i0, startE, e4, nmD, hput, hlim]
theorem p_any (d : Nat) {x : Nat} (hx : x ∈ ns) (h : RI ns 1 r) (ho : r.ov = none) : call PG (d + 2) 123 [.ref 0, .dat (sD (.any x)), .dat (plcD p)] (sto ns r) = some (.val (.dat .non), sto ns (anyR ns x p r)) := by
  have hlim : (ptK ns).length < LIM := by
    have := h.nl
    unfold ptK LIM
    rw [List.length_map]
    omega
  have e6 := c_stops (p := p) d ho (ns := ns) wWanting
  have he := eq_nil (st := sto ns r) (l := 3) (ds := r.gi.map frD) rfl (nods_gi r.gi)
  rw [call_goM F123 rfl rfl]
  simp only [sD]
  unfold anyR
  cases hg : r.gi with
  | nil =>
    rw [sto_none ho, hg] at he e6 ⊢
    simp at he e6
    simp [F123, F123i0, F123i1, F123i2, startE, he, e6]
  | cons g gi =>
    have hput := dput_pt (fs := r.fs) (v := g) hx
    have ho' : ({ r with fs := updP ns r.fs x g, gi := gi } : RS).ov = none := ho
    rw [sto_none ho, hg] at he ⊢
    simp only [sto_none ho']
    simp at he
    simp [F123, F123i0, F123i1, F123i2, startE, he, pop0, nmD, hput, hlim]
theorem p_note (d : Nat) {rs : List Row} (hs : ∀ r ∈ rs, RwG ns r) (h : RI ns 1 r) (ho : r.ov = none) : call PG (d + 6) 123 [.ref 0, .dat (sD (.note rs)), .dat (plcD p)] (sto ns r) = some (.val (.dat .non), sto ns (if rs.all (soR (lookP ns r.fs)) then passesR p r else stopsR wBroken p r)) := by
  have hp := h.ptG (pv := .bor (.dK (ptK ns) (ptD r.fs))) (.inl rfl)
  have e2 := c_all d hp hs
  have e5 := c_passes (p := p) (d + 4) ho (ns := ns) (by have := h.pa; have := h.dd; omega)
  have e6 := c_stops (p := p) (d + 4) ho (ns := ns) wBroken
  rw [call_goM F123 rfl rfl]
  rw [sto_none ho] at e5 e6 ⊢
  simp only [sD]
  generalize rs.all (soR (lookP ns r.fs)) = al at *
  cases al <;> simp [F123, F123i0, F123i1, F123i3, F123i4, startE, e2, e5, e6]
theorem RI.turn (h : RI ns 1 r) {tu : List Bool} : RI ns 0 { r with tu := tu } := by
  obtain ⟨a, b, c, h1, d, f, g⟩ := h.down
  exact ⟨a, b, c, h1, d, f, g⟩
theorem p_cho (d : Nat) {a b : List Stm} (hl : p.length ≤ 1000) (ha : BSnd (d + 1) ns a (p ++ [0])) (hb : BSnd (d + 1) ns b (p ++ [1])) (h : RI ns 1 r) (ho : r.ov = none) : call PG (d + 2) 123 [.ref 0, .dat (sD (.cho a b)), .dat (plcD p)] (sto ns r) = some (.val (.dat .non), sto ns (choR (fun s => blkR ns a (p ++ [0]) 0 s) (fun s => blkR ns b (p ++ [1]) 0 s) p r)) := by
  have e6 := c_stops (p := p) d ho (ns := ns) wWanting
  have he := eq_nil (st := sto ns r) (l := 2) (ds := r.tu.map tuD) rfl (nods_tu r.tu)
  rw [call_goM F123 rfl rfl]
  simp only [sD]
  unfold choR
  cases hg : r.tu with
  | nil =>
    rw [sto_none ho, hg] at he e6 ⊢
    simp at he e6
    simp [F123, F123i0, F123i1, F123i3, F123i5, F123i6, startE, he, e6]
  | cons t tu =>
    have ho' : ({ r with tu := tu } : RS).ov = none := ho
    have ea := (ha { r with tu := tu } h.turn ho').1
    have eb := (hb { r with tu := tu } h.turn ho').1
    have p0 := plcD_app (p := p) (k := 0) hl (st := sto ns { r with tu := tu })
    have p1 := plcD_app (p := p) (k := 1) hl (st := sto ns { r with tu := tu })
    rw [sto_none ho'] at ea eb p0 p1
    rw [sto_none ho, hg] at he ⊢
    simp at he
    dsimp only at ea eb p0 p1 ⊢
    have p0' : binV .add (.dat (plcD p)) (.dat (.tup [.int 0])) _ = _ := p0
    have p1' : binV .add (.dat (plcD p)) (.dat (.tup [.int 1])) _ = _ := p1
    cases t with
    | false =>
      simp [tuD, bI] at he
      simp [F123, F123i0, F123i1, F123i3, F123i5, F123i6, startE, he, pop0, tuD, bI, p0', ea]
    | true =>
      simp [tuD, bI] at he
      simp [F123, F123i0, F123i1, F123i3, F123i5, F123i6, startE, he, pop0, tuD, bI, p1', eb]
theorem p_ite (d : Nat) {row : Row} {a b : List Stm} (hl : p.length ≤ 1000) (hr : RwG ns row) (ha : BSnd (d + 4) ns a (p ++ [0])) (hb : BSnd (d + 4) ns b (p ++ [1])) (h : RI ns 1 r) (ho : r.ov = none) : call PG (d + 5) 123 [.ref 0, .dat (sD (.ite row a b)), .dat (plcD p)] (sto ns r) = some (.val (.dat .non), sto ns (if soR (lookP ns r.fs) row then blkR ns a (p ++ [0]) 0 r else blkR ns b (p ++ [1]) 0 r)) := by
  have hp := h.ptG (pv := .bor (.dK (ptK ns) (ptD r.fs))) (.inl rfl)
  have e1 := c_so d hp hr
  have ea := (ha r h.down ho).1
  have eb := (hb r h.down ho).1
  have p0 := plcD_app (p := p) (k := 0) hl (st := sto ns r)
  have p1 := plcD_app (p := p) (k := 1) hl (st := sto ns r)
  rw [call_goM F123 rfl rfl]
  simp only [sD]
  rw [sto_none ho] at ea eb p0 p1 ⊢
  have p0' : binV .add (.dat (plcD p)) (.dat (.tup [.int 0])) _ = _ := p0
  have p1' : binV .add (.dat (plcD p)) (.dat (.tup [.int 1])) _ = _ := p1
  generalize soR (lookP ns r.fs) row = so at *
  cases so with
  | true => simp [F123, F123i0, F123i1, F123i3, F123i5, startE, e1, p0', ea]
  | false => simp [F123, F123i0, F123i1, F123i3, F123i5, startE, e1, p1', eb]
theorem loop_of (d : Nat) {row : Row} {rs : List Row} {f : Option (Sm × Int)} {b : List Stm} (hp : p.length ≤ 1000) (g1 : RwG ns row) (g2 : ∀ r ∈ rs, RwG ns r) (g3 : ∀ p, f = some p → FeG ns p) (hB : BSnd (d + 7) ns b (p ++ [0])) : SSnd (d + 9) ns (.whl row rs f b) p := by
  intro r h ho
  obtain ⟨y3, y4, e, h1, h2⟩ := wh_loop d hp g1 g2 g3 hB 301 none r h (by omega) (fun x hx => (nomatch hx))
  simp only [stR]
  refine ⟨?_, h1, h2⟩
  have e2 : call PG (d + 8) 122 [.ref 0, .dat (sD (.whl row rs f b)), .dat (plcD p)] (sto ns r) = some (.val (.dat .non), sto ns (loopR (fun q s => blkR ns b q 0 s) ns row rs f p 301 none r)) := by
    rw [call_goM F122 rfl rfl]
    simp only [laD] at e
    simp [F122, startE, e]
  rw [call_goM F124 rfl rfl]
  simp only [sD] at e2 ⊢
  rw [sto_none ho] at e2 ⊢
  simp [F124, F124i0, startE, e2]
theorem depB_le {b : List Stm} {j : Nat} (h : depB b ≤ j) : ∀ s ∈ b, depS s ≤ j := fun s hs => Nat.le_trans (depB_mem s hs) h
theorem cntB_mem {w : Stm → Nat} : ∀ {b : List Stm}, ∀ s ∈ b, cntS w s ≤ cntB w b
  | [], s, h => by simp at h
  | t :: b, s, h => by
    simp only [cntB]
    rcases List.mem_cons.mp h with e | h
    · rw [e]; omega
    · have := cntB_mem (w := w) (b := b) s h; omega
theorem st_step {d j : Nat} (ih : ∀ (b : List Stm) (p : List Nat), depB b ≤ j → cntB w1 b ≤ 500 → gB ns b → p.length + 2 * j ≤ 500 → BSnd (d + 9) ns b p) {s : Stm} (hd : depS s ≤ j + 1) (hc : cntS w1 s ≤ 500) (hg : gS ns s) (hp : p.length + 1 + 2 * j ≤ 500) : SSnd (d + 11) ns s p := by
  have hp' : p.length ≤ 1000 := by omega
  cases s with
  | set x s =>
    simp only [gS] at hg
    refine plain_of (D := d + 9) (k := fun r => { r with fs := updP ns r.fs x (wv (lookP ns r.fs) s) }) (fun _ _ _ _ e => (nomatch e)) (by omega) (fun r h ho => ⟨p_set (d + 6) hg.1 hg.2 h ho, h.set (h.worth hg.2), Nat.le_refl _⟩) fun r => by simp only [stR]
  | any x =>
    simp only [gS] at hg
    refine plain_of (D := d + 9) (k := anyR ns x p) (fun _ _ _ _ e => (nomatch e)) (by omega) (fun r h ho => ⟨p_any (d + 8) hg h ho, ?_⟩) fun r => by simp only [stR]
    unfold anyR
    cases hgi : r.gi with
    | nil => exact ⟨h.down.stops, Nat.le_refl _⟩
    | cons g gi =>
      have hg1 := h.gi g (by rw [hgi]; exact List.mem_cons_self)
      have := h.set (c := x) (v := g) fun m hm => hm.given hg1.1 hg1.2.1 hg1.2.2
      obtain ⟨a, b, c, h1, d, f, g'⟩ := this
      exact ⟨⟨a, b, c, h1, d, f, fun q hq => g' q (by dsimp only; rw [hgi]; exact List.mem_cons_of_mem _ hq)⟩, Nat.le_refl _⟩
  | note rs =>
    simp only [gS] at hg
    refine plain_of (D := d + 9) (k := fun r => if rs.all (soR (lookP ns r.fs)) then passesR p r else stopsR wBroken p r) (fun _ _ _ _ e => (nomatch e)) (by omega) (fun r h ho => ⟨p_note (d + 4) hg h ho, ?_⟩) fun r => by simp only [stR]
    split
    · exact ⟨h.passes, Nat.le_refl _⟩
    · exact ⟨h.down.stops, Nat.le_refl _⟩
  | cho a b =>
    simp only [gS] at hg
    simp only [depS] at hd
    simp only [cntS] at hc
    have ha := ih a (p ++ [0]) (by omega) (by omega) hg.1 (by simp; omega)
    have hb := ih b (p ++ [1]) (by omega) (by omega) hg.2 (by simp; omega)
    refine plain_of (D := d + 9) (k := choR (fun s => blkR ns a (p ++ [0]) 0 s) (fun s => blkR ns b (p ++ [1]) 0 s) p) (fun _ _ _ _ e => (nomatch e)) (by omega) (fun r h ho => ⟨p_cho (d + 8) hp' ha hb h ho, ?_⟩) fun r => by simp only [stR]
    unfold choR
    cases hgi : r.tu with
    | nil => exact ⟨h.down.stops, Nat.le_refl _⟩
    | cons t tu =>
      have ea := (ha { r with tu := tu } h.turn ho).2
      have eb := (hb { r with tu := tu } h.turn ho).2
      dsimp only
      split
      · exact eb
      · exact ea
  | ite row a b =>
    simp only [gS] at hg
    simp only [depS] at hd
    simp only [cntS] at hc
    have ha := ih a (p ++ [0]) (by omega) (by omega) hg.2.1 (by simp; omega)
    have hb := ih b (p ++ [1]) (by omega) (by omega) hg.2.2 (by simp; omega)
    refine plain_of (D := d + 9) (k := fun r => if soR (lookP ns r.fs) row then blkR ns a (p ++ [0]) 0 r else blkR ns b (p ++ [1]) 0 r) (fun _ _ _ _ e => (nomatch e)) (by omega) (fun r h ho => ⟨p_ite (d + 5) hp' hg.1 ha hb h ho, ?_⟩) fun r => by simp only [stR]
    split
    · exact (ha r h.down ho).2
    · exact (hb r h.down ho).2
  | whl row rs f b =>
    simp only [gS] at hg
    simp only [depS] at hd
    simp only [cntS] at hc
    exact loop_of (d + 2) hp' hg.1 hg.2.1 hg.2.2.1 (ih b (p ++ [0]) (by omega) (by omega) hg.2.2.2 (by simp; omega))
theorem depS_pos (s : Stm) : 1 ≤ depS s := by cases s <;> simp [depS] <;> omega
theorem blk_all : ∀ (j d : Nat) (b : List Stm) (p : List Nat), depB b ≤ j → cntB w1 b ≤ 500 → gB ns b → p.length + 2 * j ≤ 500 → BSnd (d + 3 * j + 9) ns b p
  | 0, d, b, p, hd, hc, hg, hp => by
    have hb := cntB_len (b := b)
    refine blk_of (by omega) (by omega) fun s hs => ?_
    have := depB_le hd s hs
    have := depS_pos s
    omega
  | j + 1, d, b, p, hd, hc, hg, hp => by
    have hb := cntB_len (b := b)
    rw [show d + 3 * (j + 1) + 9 = (d + 3 * j + 11) + 1 by omega]
    refine blk_of (by omega) (by omega) fun s hs k => ?_
    have hcs := cntB_mem (w := w1) s hs
    exact st_step (d := d + 3 * j) (fun b p => blk_all j d b p) (depB_le hd s hs) (by omega) (gB_mem hg s hs) (by simp; omega)
end
end NK
set_option Elab.async false
set_option linter.all false
set_option autoImplicit false
set_option maxRecDepth 100000
namespace NK
open PySem L2
/-! RRunIs: run, as a function -/
section
variable {ns : List Nat} {fs : List (Int × Int)}
theorem for_haveK (C : Calls) (x0 : Option Val) {ns : List Nat} {fs : List (Int × Int)} (hl : fs.length = ns.length) : ∀ {xs : List Nat} {x2 : Option Val}, (∀ x ∈ xs, x ∈ ns) → ∃ y2, FOR C [2] false F64b0 (xs.map nmD) [x0, some (.dat (.dK (ptK ns) (ptD fs))), x2] [] = some (.nx [x0, some (.dat (.dK (ptK ns) (ptD fs))), y2] [])
  | [], x2, _ => ⟨x2, rfl⟩
  | x :: xs, x2, h => by
    obtain ⟨y2, ih⟩ := for_haveK C x0 hl (xs := xs) (x2 := some (.dat (nmD x))) fun y hy => h y (List.mem_cons_of_mem _ hy)
    refine ⟨y2, ?_⟩
    have e := (dlook_pt hl (h x List.mem_cons_self)).1
    have hh : cmpV .notin (.dat (nmD x)) (.dat (.dK (ptK ns) (ptD fs))) [] = some false := by simp [cmpV, cmpV.inV, snap, nmD, toK, e]
    rw [List.map_cons, FOR_cons, ← ih]
    simp [F64b0, hh]
theorem c_haveK (d : Nat) (hl : fs.length = ns.length) : call PG (d + 1) 64 [.dat (.tup (ns.map nmD)), .dat (.dK (ptK ns) (ptD fs))] [] = some (.dat .non, []) := by
  obtain ⟨y2, e⟩ := for_haveK (call PG d) (some (.dat (.tup (ns.map nmD)))) hl (xs := ns) (x2 := none) fun x h => h
  rw [call_go F64 rfl rfl]
  simp [F64, startE, e]
/-- where a run begins -/
def startR (ns : List Nat) (fs : List (Int × Int)) (tu : List Bool) (gi : List (Int × Int)) : RS := ⟨ns.map (lookP ns fs), tu, gi, 0, [], none⟩
abbrev wPoint : W := [112, 111, 105, 110, 116]
theorem for_init (C : Calls) (x1 x3 x4 : Option Val) (hn : ns.Nodup) (h10 : ns.length ≤ 10) (hl : fs.length = ns.length) : ∀ {b a : List Nat} {x5 : Option Val}, a ++ b = ns → ∃ y5, FOR C [5] false F114b0 (b.map nmD) [some (.ref 0), x1, some (.dat (.dK (ptK ns) (ptD fs))), x3, x4, x5] [.ins 1 [(wPoint, .ref 1)], .dK (ptK a) (ptD (a.map (lookP ns fs)))] = some (.nx [some (.ref 0), x1, some (.dat (.dK (ptK ns) (ptD fs))), x3, x4, y5] [.ins 1 [(wPoint, .ref 1)], .dK (ptK ns) (ptD (ns.map (lookP ns fs)))])
  | [], a, x5, h => by
    rw [List.append_nil] at h
    subst h
    exact ⟨x5, rfl⟩
  | c :: b, a, x5, h => by
    obtain ⟨y5, ih⟩ := for_init C x1 x3 x4 hn h10 hl (b := b) (a := a ++ [c]) (x5 := some (.dat (nmD c))) (by simpa using h)
    refine ⟨y5, ?_⟩
    have hc : c ∈ ns := by rw [← h]; simp
    have e := (dlook_pt hl hc).1
    have hnot : (.inr [c] : K1) ∉ ptK a := fun hm => by
      have hm := ptK_mem.mp hm
      rw [← h] at hn
      exact (List.nodup_append.mp hn).2.2 c hm c List.mem_cons_self rfl
    have hput : dputK (ptK a) (ptD (a.map (lookP ns fs))) (.inr [c]) (frD (lookP ns fs c)) = (ptK (a ++ [c]), ptD ((a ++ [c]).map (lookP ns fs))) := by
      unfold dputK
      rw [if_neg hnot]
      simp [ptK, ptD]
    have hlim : (ptK a).length < LIM := by
      have : a.length ≤ ns.length := by rw [← h]; simp
      unfold ptK LIM
      rw [List.length_map]
      omega
    have hi : idxV (.dat (.dK (ptK ns) (ptD fs))) (.dat (nmD c)) [.ins 1 [(wPoint, .ref 1)], .dK (ptK a) (ptD (a.map (lookP ns fs)))] = some (frD (lookP ns fs c)) := by
      simp [idxV, snap, nmD, toK, e]
    rw [List.map_cons, FOR_cons, ← ih]
    simp only [nmD] at hi
    simp [F114b0, hi, nmD, hput, hlim]
theorem asLS_lst {st : Sto} {ds : List D} : asLS st (.dat (.lst ds)) = some ds := rfl
theorem c_make (d : Nat) (hn : ns.Nodup) (h10 : ns.length ≤ 10) (hl : fs.length = ns.length) (tu : List Bool) (gi : List (Int × Int)) : call PG (d + 2) 115 [.dat (.tup (ns.map nmD)), .dat (.dK (ptK ns) (ptD fs)), .dat (.lst (tu.map tuD)), .dat (.lst (gi.map frD))] [] = some (.val (.ref 0), sto ns (startR ns fs tu gi)) := by
  obtain ⟨y5, e⟩ := for_init (call PG d) (some (.dat (.tup (ns.map nmD)))) (some (.dat (.lst (tu.map tuD)))) (some (.dat (.lst (gi.map frD)))) hn h10 hl (b := ns) (a := []) (x5 := none) rfl
  have e0 : ptK [] = [] := rfl
  have e1 : ptD ([].map (lookP ns fs)) = [] := rfl
  rw [e0, e1] at e
  rw [call_goK F115 rfl rfl]
  have e2 : call PG (d + 1) 114 [.ref 0, .dat (.tup (ns.map nmD)), .dat (.dK (ptK ns) (ptD fs)), .dat (.lst (tu.map tuD)), .dat (.lst (gi.map frD))] [.ins 1 []] = some (.val (.dat .non), sto ns (startR ns fs tu gi)) := by
    rw [call_goM F114 rfl rfl, sto_none rfl]
    simp [F114, startE, putA, e, asLS_lst, startR]
    rfl
  simp only [List.length_nil, List.nil_append, e2]
  rfl
/-- what a run comes to -/
def runR (ns : List Nat) (rs : List Row) (b : List Stm) (fs : List (Int × Int)) (tu : List Bool) (gi : List (Int × Int)) : RS :=
  if rs.all (soR (lookP ns (ns.map (lookP ns fs)))) then
    match (blkR ns b [] 0 (startR ns fs tu gi)).ov with
    | none => stopsR wDone [] (blkR ns b [] 0 (startR ns fs tu gi))
    | some _ => blkR ns b [] 0 (startR ns fs tu gi)
  else stopsR wUnmet [] (startR ns fs tu gi)
/-- what a run is given -/
structure InOk (ns : List Nat) (fs gi : List (Int × Int)) : Prop where
  ln : fs.length = ns.length
  pt : PtN 0 fs
  gi : ∀ f ∈ gi, Fr f.1 f.2 ∧ f.1.natAbs ≤ 2 ^ 60 ∧ f.2 ≤ 3
theorem start_ri {tu : List Bool} {gi : List (Int × Int)} (hn : ns.Nodup) (h10 : ns.length ≤ 10) (h : InOk ns fs gi) : RI ns 0 (startR ns fs tu gi) := by
  refine ⟨hn, h10, by simp [startR], ⟨0, rfl, ?_⟩, by simp [startR], by simp [startR], h.gi⟩
  obtain ⟨D, d0, d1, d2⟩ := h.pt.ok
  refine ⟨D, d0, d1, fun f hf => d2 f ?_⟩
  simp only [startR, List.mem_map] at hf
  obtain ⟨c, hc, rfl⟩ := hf
  exact (dlook_pt h.ln hc).2
theorem c_run (d : Nat) {rs : List Row} {b : List Stm} {tu : List Bool} {gi : List (Int × Int)} (hn : ns.Nodup) (h10 : ns.length ≤ 10) (hm : MustOk ns rs b) (hg : gB ns b) (hr : ∀ r ∈ rs, RwG ns r) (h : InOk ns fs gi) : call PG (d + 22) 126 [.dat (pD ⟨ns, rs, b⟩), .dat (.dK (ptK ns) (ptD fs)), .dat (.lst (tu.map tuD)), .dat (.lst (gi.map frD))] [] = some (.dat (ovD ns (runR ns rs b fs tu gi)), []) := by
  have e1 := c_mustP (d + 12) hm
  have e2 := c_haveK (d + 20) h.ln
  have e3 := c_make (d + 19) hn h10 h.ln tu gi
  have hri := start_ri (tu := tu) hn h10 h
  have hp := hri.ptG (pv := .bor (.dK (ptK ns) (ptD (startR ns fs tu gi).fs))) (.inl rfl)
  have e4 := c_all (d + 16) hp hr
  have hB := blk_all 4 d b [] hm.few.dp (by have := hm.few.n; omega) hg (by simp) (startR ns fs tu gi) hri rfl
  obtain ⟨e5, h5, _⟩ := hB
  have e6 := c_stops (p := []) (r := startR ns fs tu gi) (d + 20) rfl (ns := ns) wUnmet
  have ep : plcD [] = .tup [] := rfl
  have epd : pD ⟨ns, rs, b⟩ = .tup [.tup (ns.map nmD), .tup (rs.map rD), .tup (bD b)] := rfl
  have eso : rs.all (soR (lookP ns (startR ns fs tu gi).fs)) = rs.all (soR (lookP ns (ns.map (lookP ns fs)))) := rfl
  rw [eso] at e4
  rw [ep] at e5 e6
  rw [epd] at e1 ⊢
  rw [call_go F126 rfl rfl]
  have hst := sto_none (ns := ns) (r := startR ns fs tu gi) rfl
  unfold runR
  cases hall : rs.all (soR (lookP ns (ns.map (lookP ns fs)))) with
  | false =>
    rw [hall] at e4
    rw [hst] at e3 e6
    simp [F126, F126i0, startE, e1, e2, e3, e4, e6, sto, stopsR]
  | true =>
    rw [hall] at e4
    rw [hst] at e3 e5
    cases ho : (blkR ns b [] 0 (startR ns fs tu gi)).ov with
    | none =>
      have e7 := c_stops (p := []) (r := blkR ns b [] 0 (startR ns fs tu gi)) (d + 20) ho (ns := ns) wDone
      rw [ep] at e7
      rw [sto_none ho] at e5 e7
      simp [F126, F126i0, F126i1, startE, e1, e2, e3, e4, e5, e7, sto, stopsR, ho]
    | some q =>
      have hq : ∃ ds, ovD ns (blkR ns b [] 0 (startR ns fs tu gi)) = .tup ds := by
        unfold ovD; rw [ho]; exact ⟨_, rfl⟩
      obtain ⟨ds, hds⟩ := hq
      simp only [sto, hds] at e5
      simp [F126, F126i0, F126i1, startE, e1, e2, e3, e4, e5, hds, ho]
end
end NK
set_option Elab.async false
set_option linter.all false
set_option autoImplicit false
set_option maxRecDepth 100000
namespace NK
open PySem L2
/-! RLaw: what holds of runs, no program in sight -/
def extR (tx : List Bool) (gx : List (Int × Int)) (r : RS) : RS := { r with tu := r.tu ++ tx, gi := r.gi ++ gx }
/-- a run by more beside a run by fewer -/
def LkR (tx : List Bool) (gx : List (Int × Int)) (a b : RS) : Prop := a = extR tx gx b ∨ ((∃ q, b.ov = some (wWanting, q)) ∧ b.pa <+: a.pa)
section
variable {ns : List Nat} {r : RS} {p : List Nat} {tx : List Bool} {gx : List (Int × Int)}
theorem blkR_over {z : W × List Nat} : ∀ {b : List Stm} {k : Nat} {r : RS}, r.ov = some z → blkR ns b p k r = r
  | [], k, r, _ => by simp [blkR]
  | s :: b, k, r, h => by
    simp only [blkR, h]
    exact blkR_over h
/-- what a run does: one step -/
inductive Stp (W : List Nat → Prop) : RS → RS → Prop
  | stop {r : RS} {w : NK.W} {q : List Nat} : r.ov = none → w ≠ wWanting → Stp W r (stopsR w q r)
  | stop1 {r : RS} {w : NK.W} {q : List Nat} : r.ov = none → w ≠ wWanting → r.dd ≠ 300 → Stp W r (stopsR w q { r with dd := r.dd + 1 })
  | pass {r : RS} {q : List Nat} : r.ov = none → r.dd ≠ 300 → Stp W r (passesR q { r with dd := r.dd + 1 })
  | tick {r : RS} {fs : List (Int × Int)} : r.ov = none → r.dd ≠ 300 → Stp W r { r with dd := r.dd + 1, fs := fs }
  | giv {r : RS} {fs : List (Int × Int)} {g : Int × Int} {gi : List (Int × Int)} : r.ov = none → r.dd ≠ 300 → r.gi = g :: gi → Stp W r { r with dd := r.dd + 1, fs := fs, gi := gi }
  | tur {r : RS} {t : Bool} {tu : List Bool} : r.ov = none → r.dd ≠ 300 → r.tu = t :: tu → Stp W r { r with dd := r.dd + 1, tu := tu }
  | want {r : RS} {q : List Nat} : r.ov = none → r.dd ≠ 300 → (r.gi = [] ∨ r.tu = []) → W q → Stp W r (stopsR wWanting q { r with dd := r.dd + 1 })
inductive Stps (W : List Nat → Prop) : RS → RS → Prop
  | nil {r : RS} : Stps W r r
  | cons {r s t : RS} : Stp W r s → Stps W s t → Stps W r t
theorem Stps.app {W : List Nat → Prop} {r s t : RS} (h : Stps W r s) (k : Stps W s t) : Stps W r t := by
  induction h with
  | nil => exact k
  | cons a _ ih => exact .cons a (ih k)
theorem Stps.one {W : List Nat → Prop} {r s : RS} (h : Stp W r s) : Stps W r s := .cons h .nil
/-- a place at which a choice or a given stands -/
inductive AtCA : List Stm → List Nat → Prop
  | any {b : List Stm} {k x : Nat} : b[k]? = some (.any x) → AtCA b [k]
  | cho {b : List Stm} {k : Nat} {x y : List Stm} : b[k]? = some (.cho x y) → AtCA b [k]
  | whl {b : List Stm} {k : Nat} {row : Row} {rs : List Row} {f : Option (Sm × Int)} {c : List Stm} {q : List Nat} : b[k]? = some (.whl row rs f c) → AtCA c q → AtCA b (k :: 0 :: q)
  | ch0 {b : List Stm} {k : Nat} {x y : List Stm} {q : List Nat} : b[k]? = some (.cho x y) → AtCA x q → AtCA b (k :: 0 :: q)
  | ch1 {b : List Stm} {k : Nat} {x y : List Stm} {q : List Nat} : b[k]? = some (.cho x y) → AtCA y q → AtCA b (k :: 1 :: q)
  | if0 {b : List Stm} {k : Nat} {row : Row} {x y : List Stm} {q : List Nat} : b[k]? = some (.ite row x y) → AtCA x q → AtCA b (k :: 0 :: q)
  | if1 {b : List Stm} {k : Nat} {row : Row} {x y : List Stm} {q : List Nat} : b[k]? = some (.ite row x y) → AtCA y q → AtCA b (k :: 1 :: q)
theorem head_stp {W : List Nat → Prop} {row : Row} {rs : List Row} {f : Option (Sm × Int)} {la : Option (Int × Int)} (ho : r.ov = none) (h3 : ¬ r.dd = 300) : Stp W r (headR ns row rs f p la { r with dd := r.dd + 1 }).2 := by
  unfold headR
  dsimp only
  split
  · exact .pass ho h3
  · exact .stop1 ho (by decide) h3
theorem loop_stps {W : List Nat → Prop} {row : Row} {rs : List Row} {f : Option (Sm × Int)} {B : List Nat → RS → RS} (hB : ∀ s, s.ov = none → Stps W s (B (p ++ [0]) s)) : ∀ (n : Nat) (la : Option (Int × Int)) (r : RS), Stps W r (loopR B ns row rs f p n la r)
  | 0, la, r => by simp only [loopR]; exact .nil
  | n + 1, la, r => by
    cases ho : r.ov with
    | some z => simp only [loopR, ho]; exact .nil
    | none =>
      by_cases h3 : r.dd = 300
      · simp only [loopR, ho, if_pos h3]
        exact .one (.stop ho (by decide))
      · rw [loopR_go ho h3 rfl]
        have h1 := head_stp (ns := ns) (p := p) (W := W) (row := row) (rs := rs) (f := f) (la := la) ho h3
        generalize headR ns row rs f p la { r with dd := r.dd + 1 } = q at *
        split
        · rename_i hc
          rw [Bool.and_eq_true] at hc
          have h2 : q.2.ov = none := by simpa using hc.2
          exact .cons h1 ((hB _ h2).app (loop_stps hB n _ _))
        · exact .one h1
mutual
theorem st_stps : ∀ (s : Stm) {B : List Stm} {k : Nat} {p : List Nat} {W : List Nat → Prop} {r : RS}, B[k]? = some s → (∀ q, AtCA B q → W (p ++ q)) → r.ov = none → Stps W r (stR ns s (p ++ [k]) r)
  | .set x s, B, k, p, W, r, hb, hW, ho => by
    simp only [stR, cntR]
    split
    · exact .one (.stop ho (by decide))
    · exact .one (.tick ho (by assumption))
  | .any x, B, k, p, W, r, hb, hW, ho => by
    simp only [stR, cntR]
    split
    · exact .one (.stop ho (by decide))
    · rename_i h3
      unfold anyR
      dsimp only
      cases hg : r.gi with
      | nil =>
        dsimp only
        have e : ({ r with dd := r.dd + 1 } : RS) = { fs := r.fs, tu := r.tu, gi := [], dd := r.dd + 1, pa := r.pa, ov := r.ov } := by rw [← hg]
        first
          | exact .one (.want ho h3 (.inl hg) (hW _ (.any hb)))
          | (rw [← e]; exact .one (.want ho h3 (.inl hg) (hW _ (.any hb))))
      | cons g gi => exact .one (.giv ho h3 hg)
  | .note rs, B, k, p, W, r, hb, hW, ho => by
    simp only [stR, cntR]
    split
    · exact .one (.stop ho (by decide))
    · rename_i h3
      split
      · exact .one (.pass ho h3)
      · exact .one (.stop1 ho (by decide) h3)
  | .cho a b, B, k, p, W, r, hb, hW, ho => by
    simp only [stR, cntR]
    split
    · exact .one (.stop ho (by decide))
    · rename_i h3
      unfold choR
      dsimp only
      cases hg : r.tu with
      | nil =>
        dsimp only
        have e : ({ r with dd := r.dd + 1 } : RS) = { fs := r.fs, tu := [], gi := r.gi, dd := r.dd + 1, pa := r.pa, ov := r.ov } := by rw [← hg]
        first
          | exact .one (.want ho h3 (.inr hg) (hW _ (.cho hb)))
          | (rw [← e]; exact .one (.want ho h3 (.inr hg) (hW _ (.cho hb))))
      | cons t tu =>
        dsimp only
        split
        · refine .cons (.tur ho h3 hg) (blk_stps b (B := b) (k := 0) (p := p ++ [k] ++ [1]) rfl ?_)
          intro q hq
          have := hW _ (.ch1 hb hq)
          simpa using this
        · refine .cons (.tur ho h3 hg) (blk_stps a (B := a) (k := 0) (p := p ++ [k] ++ [0]) rfl ?_)
          intro q hq
          have := hW _ (.ch0 hb hq)
          simpa using this
  | .ite row a b, B, k, p, W, r, hb, hW, ho => by
    simp only [stR, cntR]
    split
    · exact .one (.stop ho (by decide))
    · rename_i h3
      split
      · refine .cons (.tick (fs := r.fs) ho h3) (blk_stps a (B := a) (k := 0) (p := p ++ [k] ++ [0]) rfl ?_)
        intro q hq
        have := hW _ (.if0 hb hq)
        simpa using this
      · refine .cons (.tick (fs := r.fs) ho h3) (blk_stps b (B := b) (k := 0) (p := p ++ [k] ++ [1]) rfl ?_)
        intro q hq
        have := hW _ (.if1 hb hq)
        simpa using this
  | .whl row rs f b, B, k, p, W, r, hb, hW, ho => by
    simp only [stR]
    refine loop_stps (fun s hs => blk_stps b (B := b) (k := 0) (p := p ++ [k] ++ [0]) rfl ?_) _ _ _
    intro q hq
    have := hW _ (.whl hb hq)
    simpa using this
theorem blk_stps : ∀ (b : List Stm) {B : List Stm} {k : Nat} {p : List Nat} {W : List Nat → Prop} {r : RS}, B.drop k = b → (∀ q, AtCA B q → W (p ++ q)) → Stps W r (blkR ns b p k r)
  | [], B, k, p, W, r, hb, hW => by simp only [blkR]; exact .nil
  | s :: b, B, k, p, W, r, hb, hW => by
    have hat : B[k]? = some s := by
      have := congrArg List.head? hb
      rw [List.head?_drop] at this
      exact this
    have hk' : B.drop (k + 1) = b := by
      have := congrArg List.tail hb
      rwa [List.tail_drop] at this
    simp only [blkR]
    cases ho : r.ov with
    | some z => exact blk_stps b hk' hW
    | none => exact (st_stps s hat hW ho).app (blk_stps b hk' hW)
end
/-- what is passed stays -/
theorem Stp.pa {W : List Nat → Prop} {r s : RS} (h : Stp W r s) : r.pa <+: s.pa := by
  cases h <;> first | exact List.prefix_refl _ | exact List.prefix_append _ _
theorem Stps.pa {W : List Nat → Prop} {r s : RS} (h : Stps W r s) : r.pa <+: s.pa := by
  induction h with
  | nil => exact List.prefix_refl _
  | cons a _ ih => exact a.pa.trans ih
/-- a run wants where it may -/
theorem Stps.want {W : List Nat → Prop} {r s : RS} (h : Stps W r s) (h0 : ∀ q, r.ov = some (wWanting, q) → W q) : ∀ q, s.ov = some (wWanting, q) → W q := by
  induction h with
  | nil => exact h0
  | cons a _ ih =>
    refine ih fun q hq => ?_
    cases a with
    | stop ho hw => simp only [stopsR, Option.some.injEq, Prod.mk.injEq] at hq; exact absurd hq.1 hw
    | stop1 ho hw => simp only [stopsR, Option.some.injEq, Prod.mk.injEq] at hq; exact absurd hq.1 hw
    | pass ho _ => simp only [passesR, ho] at hq; exact (nomatch hq)
    | tick ho _ => simp only [ho] at hq; exact (nomatch hq)
    | giv ho _ _ => simp only [ho] at hq; exact (nomatch hq)
    | tur ho _ _ => simp only [ho] at hq; exact (nomatch hq)
    | want ho _ _ hw => simp only [stopsR, Option.some.injEq, Prod.mk.injEq, true_and] at hq; exact hq ▸ hw
/-- enough is given -/
structure Nw (r : RS) : Prop where
  tu : 300 ≤ r.tu.length + r.dd
  gi : 300 ≤ r.gi.length + r.dd
  dd : r.dd ≤ 300
  ov : ∀ q, r.ov ≠ some (wWanting, q)
theorem Stp.nw {W : List Nat → Prop} {r s : RS} (a : Stp W r s) (h : Nw r) : Nw s := by
  obtain ⟨h1, h2, h3, h4⟩ := h
  cases a with
  | stop ho hw => exact ⟨h1, h2, h3, fun q hq => by simp only [stopsR, Option.some.injEq, Prod.mk.injEq] at hq; exact hw hq.1⟩
  | stop1 ho hw h => exact ⟨by simp [stopsR]; omega, by simp [stopsR]; omega, by simp [stopsR]; omega, fun q hq => by simp only [stopsR, Option.some.injEq, Prod.mk.injEq] at hq; exact hw hq.1⟩
  | pass ho h => exact ⟨by simp [passesR]; omega, by simp [passesR]; omega, by simp [passesR]; omega, h4⟩
  | tick ho h => exact ⟨by dsimp only; omega, by dsimp only; omega, by dsimp only; omega, h4⟩
  | giv ho h e => rw [e, List.length_cons] at h2; exact ⟨by dsimp only; omega, by dsimp only; omega, by dsimp only; omega, h4⟩
  | tur ho h e => rw [e, List.length_cons] at h1; exact ⟨by dsimp only; omega, by dsimp only; omega, by dsimp only; omega, h4⟩
  | want ho h e hw =>
    rcases e with e | e
    · rw [e, List.length_nil] at h2; omega
    · rw [e, List.length_nil] at h1; omega
theorem Stps.nw {W : List Nat → Prop} {r s : RS} (h : Stps W r s) (h0 : Nw r) : Nw s := by
  induction h with
  | nil => exact h0
  | cons a _ ih => exact ih (a.nw h0)
/-! ### side by side -/
theorem LkR.cut_of {a b a' b' : RS} (h : (∃ q, b.ov = some (wWanting, q)) ∧ b.pa <+: a.pa) (hb : b' = b) (ha : a.pa <+: a'.pa) : LkR tx gx a' b' := .inr (by subst hb; exact ⟨h.1, h.2.trans ha⟩)
theorem head_ext {row : Row} {rs : List Row} {f : Option (Sm × Int)} {la : Option (Int × Int)} : headR ns row rs f p la (extR tx gx r) = ((headR ns row rs f p la r).1, extR tx gx (headR ns row rs f p la r).2) := by
  unfold headR
  have e : (extR tx gx r).fs = r.fs := rfl
  rw [e]
  dsimp only
  split <;> rfl
theorem loop_lk {row : Row} {rs : List Row} {f : Option (Sm × Int)} {B : List Nat → RS → RS} (hB : ∀ a b, LkR tx gx a b → LkR tx gx (B (p ++ [0]) a) (B (p ++ [0]) b)) (hs : ∃ W, ∀ s, Stps W s (B (p ++ [0]) s)) : ∀ (n : Nat) (la la' : Option (Int × Int)) (a b : RS), LkR tx gx a b → (b.ov = none → la = la') → LkR tx gx (loopR B ns row rs f p n la a) (loopR B ns row rs f p n la' b)
  | 0, la, la', a, b, h, _ => by simp only [loopR]; exact h
  | n + 1, la, la', a, b, h, hla => by
    rcases h with rfl | h
    · have eo : (extR tx gx b).ov = b.ov := rfl
      have ed : (extR tx gx b).dd = b.dd := rfl
      cases ho : b.ov with
      | some z =>
        simp only [loopR, eo, ho]
        exact .inl rfl
      | none =>
        obtain rfl := hla ho
        by_cases h3 : b.dd = 300
        · simp only [loopR, eo, ho, ed, if_pos h3]
          exact .inl rfl
        · rw [loopR_go ho h3 rfl, loopR_go (r := extR tx gx b) (r1 := extR tx gx { b with dd := b.dd + 1 }) ho h3 rfl, head_ext]
          generalize headR ns row rs f p la { b with dd := b.dd + 1 } = q
          obtain ⟨so, q⟩ := q
          have eq : (extR tx gx q).ov = q.ov := rfl
          dsimp only
          rw [eq]
          split
          · have el : lastR ns f (extR tx gx q) la = lastR ns f q la := rfl
            rw [el]
            exact loop_lk hB hs n _ _ _ _ (hB _ _ (.inl rfl)) fun _ => rfl
          · exact .inl rfl
    · obtain ⟨⟨q, hq⟩, hp⟩ := h
      obtain ⟨W, hs'⟩ := hs
      have := (loop_stps (ns := ns) (row := row) (rs := rs) (f := f) (fun s _ => hs' s) (n + 1) la a).pa
      refine LkR.cut_of ⟨⟨q, hq⟩, hp⟩ ?_ this
      simp only [loopR, hq]
theorem blk_cut {b : List Stm} {k : Nat} {x y : RS} (h : (∃ q, y.ov = some (wWanting, q)) ∧ y.pa <+: x.pa) : LkR tx gx (blkR ns b p k x) (blkR ns b p k y) := by
  obtain ⟨⟨q, hq⟩, hp⟩ := h
  have := (blk_stps (ns := ns) b (B := List.replicate k (.any 0) ++ b) (k := k) (p := p) (W := fun _ => True) (r := x) (by simp) fun _ _ => trivial).pa
  exact LkR.cut_of ⟨⟨q, hq⟩, hp⟩ (blkR_over hq) this
theorem cnt_lk {k : RS → RS} (hk : ∀ b, b.ov = none → LkR tx gx (k (extR tx gx b)) (k b)) {b : RS} (ho : b.ov = none) : LkR tx gx (cntR p (extR tx gx b) k) (cntR p b k) := by
  unfold cntR
  have ed : (extR tx gx b).dd = b.dd := rfl
  rw [ed]
  split
  · exact .inl rfl
  · exact hk { b with dd := b.dd + 1 } ho
mutual
theorem st_lk : ∀ (s : Stm) {p : List Nat} {b : RS}, b.ov = none → LkR tx gx (stR ns s p (extR tx gx b)) (stR ns s p b)
  | .set x s, p, b, ho => by
    simp only [stR]
    refine cnt_lk (k := fun r => { r with fs := updP ns r.fs x (wv (lookP ns r.fs) s) }) (fun b _ => .inl rfl) ho
  | .any x, p, b, ho => by
    simp only [stR]
    refine cnt_lk (fun b ho => ?_) ho
    unfold anyR
    cases hg : b.gi with
    | nil =>
      refine .inr ⟨⟨p, rfl⟩, ?_⟩
      have e : (extR tx gx b).gi = b.gi ++ gx := rfl
      rw [e, hg]
      cases gx <;> exact List.prefix_refl _
    | cons g gi =>
      have e : (extR tx gx b).gi = b.gi ++ gx := rfl
      rw [e, hg]
      exact .inl rfl
  | .note rs, p, b, ho => by
    simp only [stR]
    refine cnt_lk (fun b ho => ?_) ho
    have e : (extR tx gx b).fs = b.fs := rfl
    rw [e]
    split
    · exact .inl rfl
    · exact .inl rfl
  | .cho a c, p, b, ho => by
    simp only [stR]
    refine cnt_lk (fun b ho => ?_) ho
    unfold choR
    have e : (extR tx gx b).tu = b.tu ++ tx := rfl
    cases hg : b.tu with
    | nil =>
      rw [e, hg]
      cases tx with
      | nil => exact .inr ⟨⟨p, rfl⟩, List.prefix_refl _⟩
      | cons t tx =>
        refine .inr ⟨⟨p, rfl⟩, ?_⟩
        simp only [List.nil_append]
        split
        · exact (blk_stps (ns := ns) c (B := c) (k := 0) (p := p ++ [1]) (W := fun _ => True) (r := { extR (t :: tx) gx b with tu := tx }) rfl fun _ _ => trivial).pa
        · exact (blk_stps (ns := ns) a (B := a) (k := 0) (p := p ++ [0]) (W := fun _ => True) (r := { extR (t :: tx) gx b with tu := tx }) rfl fun _ _ => trivial).pa
    | cons t tu =>
      rw [e, hg]
      simp only [List.cons_append]
      split
      · exact blk_lk c (a := extR tx gx { b with tu := tu }) (.inl rfl)
      · exact blk_lk a (a := extR tx gx { b with tu := tu }) (.inl rfl)
  | .ite row a c, p, b, ho => by
    simp only [stR]
    refine cnt_lk (fun b ho => ?_) ho
    have e : (extR tx gx b).fs = b.fs := rfl
    rw [e]
    split
    · exact blk_lk a (.inl rfl)
    · exact blk_lk c (.inl rfl)
  | .whl row rs f c, p, b, ho => by
    simp only [stR]
    refine loop_lk (fun a b h => blk_lk c h) ⟨fun _ => True, fun s => blk_stps (ns := ns) c (B := c) (k := 0) rfl fun _ _ => trivial⟩ _ _ _ _ _ (.inl rfl) fun _ => rfl
theorem blk_lk : ∀ (c : List Stm) {p : List Nat} {k : Nat} {a b : RS}, LkR tx gx a b → LkR tx gx (blkR ns c p k a) (blkR ns c p k b)
  | [], p, k, a, b, h => by simp only [blkR]; exact h
  | s :: c, p, k, a, b, h => by
    rcases h with rfl | h
    · have eo : (extR tx gx b).ov = b.ov := rfl
      simp only [blkR, eo]
      cases ho : b.ov with
      | some z => exact blk_lk c (.inl rfl)
      | none => exact blk_lk c (st_lk s ho)
    · exact blk_cut h
end
end
end NK
set_option Elab.async false
set_option linter.all false
set_option autoImplicit false
set_option maxRecDepth 100000
namespace NK
open PySem L2
/-! RGood: a run by fewer beside the run by all -/
section
variable {ns : List Nat} {fs gi gx : List (Int × Int)} {rs : List Row} {b : List Stm} {tu tx : List Bool}
theorem run_lk : LkR tx gx (runR ns rs b fs (tu ++ tx) (gi ++ gx)) (runR ns rs b fs tu gi) := by
  have e : startR ns fs (tu ++ tx) (gi ++ gx) = extR tx gx (startR ns fs tu gi) := rfl
  unfold runR
  rw [e]
  split
  · have h := blk_lk (ns := ns) b (p := []) (k := 0) (a := extR tx gx (startR ns fs tu gi)) (b := startR ns fs tu gi) (tx := tx) (gx := gx) (.inl rfl)
    generalize blkR ns b [] 0 (extR tx gx (startR ns fs tu gi)) = x at *
    generalize blkR ns b [] 0 (startR ns fs tu gi) = y at *
    rcases h with rfl | ⟨⟨q, hq⟩, hp⟩
    · have eo : (extR tx gx y).ov = y.ov := rfl
      rw [eo]
      cases ho : y.ov with
      | none => exact .inl rfl
      | some z => exact .inl rfl
    · rw [hq]
      dsimp only
      refine .inr ⟨⟨q, hq⟩, ?_⟩
      split
      · exact hp
      · exact hp
  · exact .inl rfl
theorem run_over : ∃ z, (runR ns rs b fs tu gi).ov = some z := by
  unfold runR
  split
  · split
    · exact ⟨_, rfl⟩
    · rename_i z h; exact ⟨z, h⟩
  · exact ⟨_, rfl⟩
theorem run_want {q : List Nat} (h : (runR ns rs b fs tu gi).ov = some (wWanting, q)) : AtCA b q := by
  unfold runR at h
  split at h
  · have hs := blk_stps (ns := ns) b (B := b) (k := 0) (p := []) (W := AtCA b) (r := startR ns fs tu gi) rfl fun q hq => by simpa using hq
    split at h
    · simp only [stopsR, Option.some.injEq, Prod.mk.injEq] at h
      exact absurd h.1 (by decide)
    · exact hs.want (fun q hq => (nomatch (show (none : Option (NK.W × List Nat)) = some (wWanting, q) from hq))) q h
  · simp only [stopsR, Option.some.injEq, Prod.mk.injEq] at h
    exact absurd h.1 (by decide)
theorem run_enough (h1 : 300 ≤ tu.length) (h2 : 300 ≤ gi.length) : ∀ q, (runR ns rs b fs tu gi).ov ≠ some (wWanting, q) := by
  intro q h
  unfold runR at h
  split at h
  · have hs := blk_stps (ns := ns) b (B := b) (k := 0) (p := []) (W := AtCA b) (r := startR ns fs tu gi) rfl fun q hq => by simpa using hq
    have hn := hs.nw ⟨h1, h2, Nat.zero_le _, fun q hq => (nomatch (show (none : Option (NK.W × List Nat)) = some (wWanting, q) from hq))⟩
    split at h
    · simp only [stopsR, Option.some.injEq, Prod.mk.injEq] at h
      exact absurd h.1 (by decide)
    · exact hn.ov q h
  · simp only [stopsR, Option.some.injEq, Prod.mk.injEq] at h
    exact absurd h.1 (by decide)
/-! ### the statement at a place -/
theorem AtCA.len {b : List Stm} {q : List Nat} (h : AtCA b q) : q.length + 1 ≤ 2 * depB b := by
  induction h with
  | any h =>
    have := depB_mem _ (List.mem_of_getElem? h)
    simp only [depS] at this
    simp; omega
  | cho h =>
    have := depB_mem _ (List.mem_of_getElem? h)
    simp only [depS] at this
    simp; omega
  | whl h _ ih =>
    have := depB_mem _ (List.mem_of_getElem? h)
    simp only [depS] at this
    simp; omega
  | ch0 h _ ih =>
    have := depB_mem _ (List.mem_of_getElem? h)
    simp only [depS] at this
    simp; omega
  | ch1 h _ ih =>
    have := depB_mem _ (List.mem_of_getElem? h)
    simp only [depS] at this
    simp; omega
  | if0 h _ ih =>
    have := depB_mem _ (List.mem_of_getElem? h)
    simp only [depS] at this
    simp; omega
  | if1 h _ ih =>
    have := depB_mem _ (List.mem_of_getElem? h)
    simp only [depS] at this
    simp; omega
theorem at_bD {b : List Stm} {k : Nat} {s : Stm} (h : b[k]? = some s) : at? (bD b) (k : Int) = some (sD s) := by
  rw [at_nat, bD_map, List.getElem?_map, h]; rfl
theorem plcD_two {k j : Nat} {q : List Nat} : plcD (k :: j :: q) = .tup (.int (k : Nat) :: .int (j : Nat) :: q.map fun (n : Nat) => D.int (n : Int)) := rfl
theorem cut2 {x y : D} {q : List D} : cutL (x :: y :: q) (some 2) none = q := by
  have := cut_drop (xs := x :: y :: q) (n := 2)
  exact this
theorem AtCA.pos {b : List Stm} {q : List Nat} (h : AtCA b q) : 1 ≤ q.length := by cases h <;> simp
theorem c_at {b : List Stm} {q : List Nat} (h : AtCA b q) : ∀ d : Nat, ∃ w es, call PG (d + q.length) 127 [.dat (.tup (bD b)), .dat (plcD q)] [] = some (.dat (.tup (.str w :: es)), []) ∧ (w = wCho ∨ w = wAny) := by
  induction h with
  | @any b k x h =>
    intro d
    refine ⟨wAny, [nmD x], ?_, .inr rfl⟩
    rw [List.length_singleton, call_go F127 rfl rfl]
    simp [F127, startE, plcD, at_bD h, sD]
  | @cho b k x y h =>
    intro d
    refine ⟨wCho, [.tup (bD x), .tup (bD y)], ?_, .inl rfl⟩
    rw [List.length_singleton, call_go F127 rfl rfl]
    simp [F127, startE, plcD, at_bD h, sD]
  | @whl b k row rs f c q h hq ih =>
    intro d
    obtain ⟨w, es, e, hw⟩ := ih (d + 1)
    refine ⟨w, es, ?_, hw⟩
    have hl := hq.pos
    have hl1 : ¬ ((q.length : Int) + 1 + 1 = 1) := by omega
    rw [List.length_cons, List.length_cons, show d + (q.length + 1 + 1) = d + 1 + q.length + 1 by omega, call_go F127 rfl rfl, plcD_two]
    have e' := e
    unfold plcD at e'
    simp [F127, startE, at_bD h, sD, hl1, cut2, e']
  | @ch0 b k x y q h hq ih =>
    intro d
    obtain ⟨w, es, e, hw⟩ := ih (d + 1)
    refine ⟨w, es, ?_, hw⟩
    have hl := hq.pos
    have hl1 : ¬ ((q.length : Int) + 1 + 1 = 1) := by omega
    rw [List.length_cons, List.length_cons, show d + (q.length + 1 + 1) = d + 1 + q.length + 1 by omega, call_go F127 rfl rfl, plcD_two]
    have e' := e
    unfold plcD at e'
    simp [F127, startE, at_bD h, sD, hl1, cut2, e']
  | @ch1 b k x y q h hq ih =>
    intro d
    obtain ⟨w, es, e, hw⟩ := ih (d + 1)
    refine ⟨w, es, ?_, hw⟩
    have hl := hq.pos
    have hl1 : ¬ ((q.length : Int) + 1 + 1 = 1) := by omega
    rw [List.length_cons, List.length_cons, show d + (q.length + 1 + 1) = d + 1 + q.length + 1 by omega, call_go F127 rfl rfl, plcD_two]
    have e' := e
    unfold plcD at e'
    simp [F127, startE, at_bD h, sD, hl1, cut2, e']
  | @if0 b k row x y q h hq ih =>
    intro d
    obtain ⟨w, es, e, hw⟩ := ih (d + 1)
    refine ⟨w, es, ?_, hw⟩
    have hl := hq.pos
    have hl1 : ¬ ((q.length : Int) + 1 + 1 = 1) := by omega
    rw [List.length_cons, List.length_cons, show d + (q.length + 1 + 1) = d + 1 + q.length + 1 by omega, call_go F127 rfl rfl, plcD_two]
    have e' := e
    unfold plcD at e'
    simp [F127, startE, at_bD h, sD, hl1, cut2, e']
  | @if1 b k row x y q h hq ih =>
    intro d
    obtain ⟨w, es, e, hw⟩ := ih (d + 1)
    refine ⟨w, es, ?_, hw⟩
    have hl := hq.pos
    have hl1 : ¬ ((q.length : Int) + 1 + 1 = 1) := by omega
    rw [List.length_cons, List.length_cons, show d + (q.length + 1 + 1) = d + 1 + q.length + 1 by omega, call_go F127 rfl rfl, plcD_two]
    have e' := e
    unfold plcD at e'
    simp [F127, startE, at_bD h, sD, hl1, cut2, e']
/-! ### equal data -/
theorem eqDs_map {α : Type} {f : α → D} : ∀ {xs : List α}, (∀ x ∈ xs, eqD (f x) (f x) = true) → eqDs (xs.map f) (xs.map f) = true
  | [], _ => by simp [eqDs]
  | x :: xs, h => by
    simp only [List.map_cons, eqDs, h x List.mem_cons_self, Bool.true_and]
    exact eqDs_map fun y hy => h y (List.mem_cons_of_mem _ hy)
theorem eqD_plc (p : List Nat) : eqD (plcD p) (plcD p) = true := by
  simp only [plcD, eqD]
  exact eqDs_map fun x _ => by simp [eqD]
theorem eqD_pt (hn : ns.Nodup) : eqD (.dK (ptK ns) (ptD fs)) (.dK (ptK ns) (ptD fs)) = true := by
  have := eqKs_self (ks := ptK ns) (js := []) (ds := ptD fs) (es := []) (by simpa using ptK_nodup hn) rfl (fun d hd => by
    obtain ⟨f, _, rfl⟩ := List.mem_map.mp hd
    exact eqD_fr f)
  simp only [eqD, beq_self_eq_true, Bool.true_and]
  simpa using this
theorem eqD_pa (hn : ns.Nodup) (q : List Nat × List (Int × Int)) : eqD (paD ns q) (paD ns q) = true := by
  have h := eqD_pt (fs := q.2) hn
  unfold paD
  rw [eqD]
  simp only [eqDs, Bool.and_true, eqD_plc, h]
theorem okTs_map {α : Type} {f : α → D} {n : Nat} : ∀ {xs : List α}, (∀ x, okT (f x) = true ∧ depT (f x) ≤ n) → okTs (xs.map f) = true ∧ depTs (xs.map f) ≤ n
  | [], _ => ⟨by simp [okTs], by simp [depTs]⟩
  | x :: xs, h => by
    obtain ⟨a, b⟩ := okTs_map (xs := xs) h
    obtain ⟨c, e⟩ := h x
    simp only [List.map_cons, okTs, depTs, a, c, Bool.and_true]
    exact ⟨trivial, by omega⟩
theorem okT_plc (p : List Nat) : okT (plcD p) = true ∧ depT (plcD p) ≤ 1 := by
  obtain ⟨a, b⟩ := okTs_map (xs := p) (f := fun (n : Nat) => D.int (n : Int)) (n := 0) fun x => ⟨by simp [okT], by simp [depT]⟩
  simp only [plcD, okT, depT]
  exact ⟨a, by omega⟩
theorem okT_pt : okT (.dK (ptK ns) (ptD fs)) = true ∧ depT (.dK (ptK ns) (ptD fs)) ≤ 2 := by
  obtain ⟨a, b⟩ := okTs_map (xs := fs) (f := frD) (n := 1) fun x => ⟨by simp [frD, okT, okTs], by simp [frD, depT, depTs]⟩
  simp only [ptD, okT, depT]
  exact ⟨a, by omega⟩
theorem okT_pa (q : List Nat × List (Int × Int)) : okT (paD ns q) = true ∧ depT (paD ns q) ≤ 3 := by
  obtain ⟨a, b⟩ := okT_plc q.1
  obtain ⟨c, e⟩ := okT_pt (ns := ns) (fs := q.2)
  simp only [paD, okT, okTs, depT, depTs] at *
  simp only [a, c]
  exact ⟨rfl, by omega⟩
/-- what was passed -/
theorem pas_ok (hn : ns.Nodup) (pa : List (List Nat × List (Int × Int))) : eqD (.lst (pa.map (paD ns))) (.lst (pa.map (paD ns))) = true ∧ okT (.lst (pa.map (paD ns))) = true ∧ depT (.lst (pa.map (paD ns))) ≤ 4 := by
  obtain ⟨a, b⟩ := okTs_map (xs := pa) (f := paD ns) okT_pa
  simp only [eqD, okT, depT]
  exact ⟨eqDs_map fun q _ => eqD_pa hn q, a, by omega⟩
theorem pas_ne (hn : ns.Nodup) (pa : List (List Nat × List (Int × Int))) : cmpV .ne (.dat (.lst (pa.map (paD ns)))) (.dat (.lst (pa.map (paD ns)))) [] = some false := by
  obtain ⟨a, b, c⟩ := pas_ok hn pa
  have h : eqOkL (.lst (pa.map (paD ns))) (.lst (pa.map (paD ns))) = true := by
    simp only [eqOkL, eqOkT, a, b, Bool.and_true, Bool.true_and, decide_eq_true_eq]
    omega
  simp [cmpV, snap, h, a]
theorem ov_eq (hn : ns.Nodup) {r : RS} {z : W × List Nat} (ho : r.ov = some z) : cmpV .eq (.dat (ovD ns r)) (.dat (ovD ns r)) [] = some true := by
  obtain ⟨a, b, c⟩ := pas_ok hn r.pa
  obtain ⟨p1, p2⟩ := okT_plc z.2
  obtain ⟨t1, t2⟩ := okT_pt (ns := ns) (fs := r.fs)
  have e1 : eqD (ovD ns r) (ovD ns r) = true := by
    simp only [ovD, ho]
    rw [eqD]
    simp only [eqDs, a, eqD_plc, eqD_pt hn, Bool.and_true, Bool.true_and]
    simp [eqD]
  have h : eqOkT (ovD ns r) (ovD ns r) = true := by
    have k1 : okT (ovD ns r) = true := by
      simp only [ovD, ho]
      rw [okT]
      simp only [okTs, b, p1, t1, Bool.and_true]
      simp [okT]
    have k2 : depT (ovD ns r) ≤ 150 := by
      simp only [ovD, ho]
      rw [depT]
      simp only [depTs]
      have : depT (.str z.1) = 0 := by simp [depT]
      omega
    simp only [eqOkT, e1, k1, decide_eq_true k2, Bool.true_and]
    simp only [ovD, ho]
  simp [cmpV, snap, h, e1]
theorem mod_nat (c : Int) (n : Nat) : ∃ m : Nat, c.fmod ((n : Int) + 1) = (m : Int) := by
  have h : 0 ≤ c.fmod ((n : Int) + 1) := Int.fmod_nonneg_of_pos c (by omega)
  exact ⟨(c.fmod ((n : Int) + 1)).toNat, by omega⟩
theorem InOk.take {m : Nat} (h : InOk ns fs gi) : InOk ns fs (gi.take m) := ⟨h.ln, h.pt, fun f hf => h.gi f (List.mem_of_mem_take hf)⟩
theorem pre_cut {α : Type} {f : α → D} {a b : List α} (h : a <+: b) : cutL (b.map f) none (some (a.length : Int)) = a.map f := by
  rw [cut_take, ← List.map_take]
  obtain ⟨t, rfl⟩ := h
  rw [List.take_left]
theorem mem_ca {w : W} (h : w = wCho ∨ w = wAny) : cmpV .inn (.dat (.str w)) (.dat (.lst [.str wCho, .str wAny])) [] = some true := by
  rcases h with rfl | rfl <;> decide
theorem c_good (d : Nat) {c : Int} (hn : ns.Nodup) (h10 : ns.length ≤ 10) (hm : MustOk ns rs b) (hg : gB ns b) (hr : ∀ r ∈ rs, RwG ns r) (h : InOk ns fs gi) : call PG (d + 23) 128 [.dat (pD ⟨ns, rs, b⟩), .dat (.dK (ptK ns) (ptD fs)), .dat (.lst (tu.map tuD)), .dat (.lst (gi.map frD)), .dat (.int c)] [] = some (.dat (.bl true), []) := by
  obtain ⟨n1, en1⟩ := mod_nat c tu.length
  obtain ⟨n2, en2⟩ := mod_nat (c.fdiv 30) gi.length
  have e1 := c_run d (tu := tu) hn h10 hm hg hr h
  have e2 := c_run d (tu := tu.take n1) hn h10 hm hg hr (h.take (m := n2))
  have hd : okDiv 30 = true := by decide
  have z1 : ¬ ((tu.length : Int) + 1 = 0) := by omega
  have z2 : ¬ ((gi.length : Int) + 1 = 0) := by omega
  have k1 : cutL (tu.map tuD) none (some (n1 : Int)) = (tu.take n1).map tuD := by rw [cut_take, List.map_take]
  have k2 : cutL (gi.map frD) none (some (n2 : Int)) = (gi.take n2).map frD := by rw [cut_take, List.map_take]
  have lk := run_lk (ns := ns) (rs := rs) (b := b) (fs := fs) (tu := tu.take n1) (tx := tu.drop n1) (gi := gi.take n2) (gx := gi.drop n2)
  rw [List.take_append_drop, List.take_append_drop] at lk
  obtain ⟨z, hz⟩ := run_over (ns := ns) (rs := rs) (b := b) (fs := fs) (tu := tu) (gi := gi)
  obtain ⟨y, hy⟩ := run_over (ns := ns) (rs := rs) (b := b) (fs := fs) (tu := tu.take n1) (gi := gi.take n2)
  have hw := fun q => run_want (ns := ns) (rs := rs) (b := b) (fs := fs) (tu := tu.take n1) (gi := gi.take n2) (q := q)
  generalize runR ns rs b fs tu gi = told at *
  generalize runR ns rs b fs (tu.take n1) (gi.take n2) = few at *
  have hpre : few.pa <+: told.pa := by
    rcases lk with e | e
    · rw [e]; exact List.prefix_refl _
    · exact e.2
  have k3 := pre_cut (f := paD ns) hpre
  have hne := pas_ne hn few.pa
  have hov := ov_eq hn hy
  have t1 : ovD ns told = .tup [.str z.1, .lst (told.pa.map (paD ns)), plcD z.2, .dK (ptK ns) (ptD told.fs)] := by simp only [ovD, hz]
  have t2 : ovD ns few = .tup [.str y.1, .lst (few.pa.map (paD ns)), plcD y.2, .dK (ptK ns) (ptD few.fs)] := by simp only [ovD, hy]
  rw [call_go F128 rfl rfl]
  by_cases hyw : y.1 = wWanting
  · obtain ⟨y1, y2⟩ := y
    dsimp only at hyw
    subst hyw
    have hca := hw y2 hy
    have hlen := hca.len
    have hdp := hm.few.dp
    obtain ⟨w, es, e5, hw5⟩ := c_at hca (d + 22 - y2.length)
    rw [show d + 22 - y2.length + y2.length = d + 22 by omega] at e5
    have hin := mem_ca hw5
    rw [t1] at e1
    rw [t2] at e2
    have epd : pD ⟨ns, rs, b⟩ = .tup [.tup (ns.map nmD), .tup (rs.map rD), .tup (bD b)] := rfl
    rw [epd] at e1 e2 ⊢
    dsimp only at e2
    simp [-List.map_take, F128, startE, e1, hd, z1, z2, en1, en2, k1, k2, e2, k3, hne, e5, hin]
  · have hsame : ovD ns told = ovD ns few := by
      rcases lk with e | e
      · rw [e]; rfl
      · obtain ⟨q, hq⟩ := e.1
        rw [hy] at hq
        cases hq
        exact absurd rfl hyw
    have hyw' : (y.1 == wWanting) = false := by simpa using hyw
    have hpa : told.pa.map (paD ns) = few.pa.map (paD ns) := by
      rw [t1, t2] at hsame
      injection hsame with hsame
      injection hsame with _ hsame
      injection hsame with hsame _
      injection hsame
    rw [hpa] at k3
    rw [hsame] at e1
    rw [t2] at e1 e2 hov
    simp [-List.map_take, F128, startE, e1, hd, z1, z2, en1, en2, k1, k2, e2, k3, hne, hyw', hyw, hov]
end
end NK
set_option Elab.async false
set_option linter.all false
set_option autoImplicit false
set_option maxRecDepth 100000
namespace NK
open PySem L2
/-! RGen: the draws of the later laws -/
def pqO (T : List Int) (n : Nat) (f : Int) : Obj := .lst [.lst (T.map .int), .int n, .int f]
section
variable {T : List Int} {f : Int}
theorem c_tk (d : Nat) {n : Nat} (hn : n ≤ 1000000) : ∃ r, call PG (d + 1) 37 [.ref 0] [pqO T n f] = some (.dat (.int r), [pqO T (n + 1) f]) := by
  have m1 : okMul 31 ((n : Int) + 1) = true := okMul_bd (m := 5) (n := 20) bd_lit (Bd.of_le (b := 1000001) (by omega) (by decide))
  have r1 := Int.fmod_nonneg_of_pos (f + 31 * ((n : Int) + 1)) (b := 2147483629) (by decide)
  have r2 := Int.fmod_lt_of_pos (f + 31 * ((n : Int) + 1)) (b := 2147483629) (by decide)
  generalize h1 : (f + 31 * ((n : Int) + 1)).fmod 2147483629 = a at r1 r2
  have m2 : okMul a a = true := okMul_bd (m := 40) (n := 40) (Bd.of_le (b := 2147483629) (by omega) (by decide)) (Bd.of_le (b := 2147483629) (by omega) (by decide))
  have r3 := Int.fmod_nonneg_of_pos (a * a + ((n : Int) + 1)) (b := 2147483629) (by decide)
  have r4 := Int.fmod_lt_of_pos (a * a + ((n : Int) + 1)) (b := 2147483629) (by decide)
  generalize h2 : (a * a + ((n : Int) + 1)).fmod 2147483629 = c at r3 r4
  have m3 : okMul c c = true := okMul_bd (m := 40) (n := 40) (Bd.of_le (b := 2147483629) (by omega) (by decide)) (Bd.of_le (b := 2147483629) (by omega) (by decide))
  have i1 : ix 3 1 = some 1 := rfl
  rw [call_go F37 rfl rfl]
  unfold pqO
  by_cases hl : n < T.length
  · refine ⟨T[n], ?_⟩
    have e0 : at? (T.map D.int) (n : Int) = some (.int T[n]) := by rw [at_nat, List.getElem?_map, List.getElem?_eq_getElem hl]; rfl
    have hl' : (n : Int) + 1 ≤ (T.length : Int) := by omega
    simp [F37, startE, i1, hl', e0, show (n : Int) + 1 - 1 = n by omega]
  · refine ⟨(c * c).fmod 2147483587, ?_⟩
    have hl' : ¬ ((n : Int) + 1 ≤ (T.length : Int)) := by omega
    simp [F37, startE, i1, hl', m1, h1, m2, h2, m3]
/-- a draw's remainder -/
theorem c_tkm (d : Nat) {n : Nat} (hn : n ≤ 1000000) {m : Int} (h0 : 0 < m) : ∃ r, call PG (d + 1) 37 [.ref 0] [pqO T n f] = some (.dat (.int r), [pqO T (n + 1) f]) ∧ 0 ≤ r.fmod m ∧ r.fmod m < m := by
  obtain ⟨r, e⟩ := c_tk d (T := T) (f := f) hn
  exact ⟨r, e, Int.fmod_nonneg_of_pos r h0, Int.fmod_lt_of_pos r h0⟩
theorem c_nb36 (d : Nat) (c : Int) : ∃ w, call PG (d + 1) 36 [.dat (.int c)] [] = some (.dat (.int w), []) ∧ Bd 80 w := by
  have r1 := Int.fmod_nonneg_of_pos (c.fdiv 16) (b := 2 * 10 ^ 18 + 1) (by decide)
  have r2 := Int.fmod_lt_of_pos (c.fdiv 16) (b := 2 * 10 ^ 18 + 1) (by decide)
  have r3 := Int.fmod_nonneg_of_pos (c.fdiv 16) (b := 7) (by decide)
  have r4 := Int.fmod_lt_of_pos (c.fdiv 16) (b := 7) (by decide)
  have m1 : okPow 10 18 = true := okPow_of
  have m2 : okDiv 16 = true := by decide
  have m3 : okMul 2 1000000000000000000 = true := by decide
  rw [call_go F36 rfl rfl]
  by_cases hc : c.fmod 16 = 15
  · refine ⟨(c.fdiv 16).fmod (2 * 10 ^ 18 + 1) - 10 ^ 18, ?_, Bd.of_le (b := 2 ^ 61) (by omega) (by decide)⟩
    simp [F36, startE, hc, m1, m2, m3]
  · refine ⟨(c.fdiv 16).fmod 7 - 3, ?_, Bd.of_le (b := 2 ^ 61) (by omega) (by decide)⟩
    simp [F36, startE, hc, m1, m2, m3]
/-! names -/
def insN (c : Nat) : List Nat → List Nat
  | [] => [c]
  | g :: gs => if ltW [g] [c] then g :: insN c gs else c :: g :: gs
theorem ltW_one {a b : Nat} : ltW [a] [b] = decide (a < b) := by
  by_cases h : a < b <;> simp [ltW, h]
theorem insW_one (c : Nat) : ∀ gs : List Nat, insW [c] (gs.map fun g => [g]) = (insN c gs).map fun g => [g]
  | [] => rfl
  | g :: gs => by
    simp only [List.map_cons, insW, insN]
    split <;> simp_all [insW_one c gs]
theorem insN_perm (c : Nat) : ∀ gs : List Nat, (insN c gs).Perm (c :: gs)
  | [] => List.Perm.refl _
  | g :: gs => by
    simp only [insN]
    split
    · exact ((insN_perm c gs).cons g).trans (List.Perm.swap c g gs)
    · exact List.Perm.refl _
theorem insN_asc {c : Nat} : ∀ {gs : List Nat}, gs.Pairwise (· < ·) → c ∉ gs → (insN c gs).Pairwise (· < ·)
  | [], _, _ => by simp [insN]
  | g :: gs, h, hc => by
    simp only [insN, ltW_one, decide_eq_true_eq]
    have h' := List.pairwise_cons.mp h
    split
    · rename_i hlt
      refine List.pairwise_cons.mpr ⟨fun x hx => ?_, insN_asc h'.2 fun z => hc (List.mem_cons_of_mem _ z)⟩
      rcases List.mem_cons.mp ((insN_perm c gs).mem_iff.mp hx) with e | e
      · rw [e]; exact hlt
      · exact h'.1 x e
    · rename_i hlt
      have hne : c ≠ g := fun e => hc (e ▸ List.mem_cons_self)
      refine List.pairwise_cons.mpr ⟨fun x hx => ?_, h⟩
      rcases List.mem_cons.mp hx with e | e
      · omega
      · have := h'.1 x e; omega
def sortN : List Nat → List Nat
  | [] => []
  | c :: cs => insN c (sortN cs)
theorem sortW_one : ∀ gs : List Nat, sortW (gs.map fun g => [g]) = (sortN gs).map fun g => [g]
  | [] => rfl
  | g :: gs => by
    simp only [List.map_cons, sortW, sortN]
    rw [sortW_one gs, insW_one]
theorem sortN_perm : ∀ gs : List Nat, (sortN gs).Perm gs
  | [] => List.Perm.refl _
  | g :: gs => (insN_perm g (sortN gs)).trans ((sortN_perm gs).cons g)
theorem sortN_asc : ∀ {gs : List Nat}, gs.Nodup → (sortN gs).Pairwise (· < ·)
  | [], _ => List.Pairwise.nil
  | g :: gs, h => by
    have h' := List.nodup_cons.mp h
    exact insN_asc (sortN_asc h'.2) fun z => h'.1 ((sortN_perm gs).mem_iff.mp z)
theorem nmD_str' (fs : List Nat) : fs.map nmD = (fs.map fun g => [g]).map D.str := by rw [List.map_map]; rfl
def azL : List Nat := [97, 98, 99, 100, 101, 102, 103, 104, 105, 106, 107, 108, 109, 110, 111, 112, 113, 114, 115, 116, 117, 118, 119, 120, 121, 122]
theorem mod_at {n : Nat} {i : Int} (h0 : 0 < n) : ∃ k : Nat, k < n ∧ i.fmod (n : Int) = (k : Int) := by
  have r1 := Int.fmod_nonneg_of_pos i (b := (n : Int)) (by omega)
  have r2 := Int.fmod_lt_of_pos i (b := (n : Int)) (by omega)
  exact ⟨(i.fmod (n : Int)).toNat, by omega, by omega⟩
theorem ix_lt {n k : Nat} (h : k < n) : ix n (k : Int) = some k := by
  unfold ix
  rw [if_pos (by omega), if_pos (by omega)]
  rfl
theorem eraseIdx_split {α : Type} {L : List α} {k : Nat} (h : k < L.length) : (L[k] :: L.eraseIdx k).Perm L := by
  induction L generalizing k with
  | nil => simp at h
  | cons a L ih =>
    cases k with
    | zero => exact List.Perm.refl _
    | succ k =>
      simp only [List.getElem_cons_succ, List.eraseIdx_cons_succ]
      exact (List.Perm.swap a _ _).trans ((ih (by simpa using h)).cons a)
theorem c_nm35 (d : Nat) (c : Int) : ∃ ns : List Nat, call PG (d + 1) 35 [.dat (.int c)] [] = some (.dat (.tup (ns.map nmD)), []) ∧ NmOk ns := by
  have r1 := Int.fmod_nonneg_of_pos c (b := 3) (by decide)
  have r2 := Int.fmod_lt_of_pos c (b := 3) (by decide)
  generalize hn : c.fmod 3 = n at r1 r2
  have step := forV_inv (bind := fun d e => bindT [3] false d e) (body := fun e s => evSs (call PG d) F35b0 e s)
    (fun k env st => ∃ x z L fs, env = [some (.dat (.int z)), some (.ref 0), some (.ref 1), x] ∧ st = [.lst (L.map nmD), .lst (fs.map nmD)] ∧ L.length + k = 26 ∧ fs.length = k ∧ (fs ++ L).Perm azL)
    (ds := rngL 0 (1 + n)) (k := 0) (env := [some (.dat (.int c)), some (.ref 0), some (.ref 1), none]) (st := [.lst (azL.map nmD), .lst []]) ⟨_, _, azL, [], rfl, rfl, rfl, rfl, List.Perm.refl _⟩
  have hlp := step (by
    rintro i dd env st hi ⟨x, z, L, fs, rfl, rfl, hL, hf, hpm⟩
    obtain ⟨rfl, hi2⟩ := rngL_get hi
    rw [Nat.zero_add] at hL hf ⊢
    have hL0 : 0 < L.length := by omega
    obtain ⟨k, hk, ek⟩ := mod_at (i := z.fdiv 3) hL0
    have hLne : ¬ (L.length : Int) = 0 := by omega
    have hix := ix_lt hk
    have hget : (L.map nmD)[k]? = some (nmD L[k]) := by rw [List.getElem?_map, List.getElem?_eq_getElem hk]; rfl
    have hlim : fs.length < LIM := by unfold LIM; omega
    have hb : -(2 ^ 63) ≤ (k : Int) ∧ (k : Int) < 2 ^ 63 := by omega
    refine ⟨_, [some (.dat (.int (z.fdiv 5 + 7))), some (.ref 0), some (.ref 1), some (.dat (.int (0 + i)))], [.lst ((L.eraseIdx k).map nmD), .lst ((fs ++ [L[k]]).map nmD)], rfl, ?_, _, _, L.eraseIdx k, fs ++ [L[k]], rfl, rfl, ?_, ?_, ?_⟩
    · have hLne' : ¬ L = [] := by intro h; rw [h] at hL0; exact absurd hL0 (by decide)
      have he : (L.map nmD).eraseIdx k = (L.eraseIdx k).map nmD := by simp [List.eraseIdx_eq_take_drop_succ, List.map_drop, List.map_take]
      have d3 : okDiv 3 = true := by decide
      have d5 : okDiv 5 = true := by decide
      have hkb : (k : Int) < 9223372036854775808 := by omega
      have hgk : L[k]? = some L[k] := List.getElem?_eq_getElem hk
      simp [F35b0, d3, d5, hkb, hgk, hLne, hLne', ek, hix, hget, hlim, hb, he]
    · rw [List.length_eraseIdx_of_lt hk]; omega
    · simp [hf]
    · rw [List.append_assoc]
      exact ((eraseIdx_split hk).append_left fs).trans hpm)
  obtain ⟨e, s, hlp, x, z, L, fs, rfl, rfl, hL, hf, hpm⟩ := hlp
  rw [rngL_len] at hL hf
  have hlp' : FOR (call PG d) [3] false F35b0 (rngL 0 (1 + n)) [some (.dat (.int c)), some (.ref 0), some (.ref 1), none] [.lst (azL.map nmD), .lst []] = _ := hlp
  have hso : biV .sorted [.ref 1] [.lst (L.map nmD), .lst (fs.map nmD)] = some (.lst ((sortN fs).map nmD)) := by
    rw [bi_sortedX (ds := (fs.map fun g => [g]).map D.str) (ws := fs.map fun g => [g]) ?_ (textsD_map _) (by rw [List.length_map]; omega), sortW_one, nmD_str']
    simp only [soL, asL, snap]
    simp [fzO]
    intro a _
    rfl
  have hnd : (fs ++ L).Nodup := (hpm.nodup_iff).mpr (by decide)
  have hfn : fs.Nodup := (List.nodup_append.mp hnd).1
  have hlen : (sortN fs).length = fs.length := (sortN_perm fs).length_eq
  refine ⟨sortN fs, ?_, sortN_asc hfn, by omega, by omega, fun c hc => ?_⟩
  · have hr : rngOk 0 (1 + n) = true := rngOk_small (by decide) (by omega) (by omega) (by decide)
    rw [call_go F35 rfl rfl]
    simp only [azL, List.map_cons, List.map_nil, nmD] at hlp'
    have h26 : (26 : Nat) ≤ LIM := by decide
    have hL : ∀ st, asLS st (.dat (.str azL)) = some (azL.map fun c => .str [c]) := fun st => by simp [asLS, asLT, asT, asL, snap, LIM, azL]
    simp only [azL, List.map_cons, List.map_nil] at hL
    have d3 : okDiv 3 = true := by decide
    simp [F35, startE, hL, d3, hn, hr, hlp', hso]
  · have h1 : c ∈ azL := hpm.mem_iff.mp (List.mem_append.mpr (.inl ((sortN_perm fs).mem_iff.mp hc)))
    have : ∀ c ∈ azL, 97 ≤ c ∧ c ≤ 122 := by decide
    exact this c h1
/-! terms, rows, sums -/
theorem for_tms (d : Nat) (x1 : Option Val) : ∀ {ns : List Nat} {n : Nat} {fd : List (Nat × Int)} {x3 x4 : Option Val}, n + ns.length ≤ 1000000 → fd.length + ns.length ≤ 1000 →
    ∃ ts y3 y4, FOR (call PG (d + 1)) [3] false F38b0 (ns.map nmD) [some (.ref 0), x1, some (.ref 1), x3, x4] [pqO T n f, .lst (fd.map tmD)] = some (.nx [some (.ref 0), x1, some (.ref 1), y3, y4] [pqO T (n + ns.length) f, .lst ((fd ++ ts).map tmD)]) ∧ TmDr ts ns
  | [], n, fd, x3, x4, _, _ => ⟨[], x3, x4, by rw [List.append_nil]; rfl, ⟨List.Sublist.slnil, fun _ h => (nomatch h), fun _ h => (nomatch h)⟩⟩
  | c :: ns, n, fd, x3, x4, hn, hf => by
    simp only [List.length_cons] at hn hf ⊢
    obtain ⟨r, hr⟩ := c_tk d (T := T) (n := n) (f := f) (by omega)
    obtain ⟨w, hw, hb⟩ := c_nb36 d r
    have hlim : fd.length < LIM := by unfold LIM; omega
    simp only [List.map_cons]
    rw [FOR_cons]
    by_cases h0 : w = 0
    · obtain ⟨ts, y3, y4, ih, hd⟩ := for_tms d x1 (ns := ns) (n := n + 1) (fd := fd) (x3 := some (.dat (nmD c))) (x4 := some (.dat (.int w))) (by omega) (by omega)
      refine ⟨ts, y3, y4, ?_, ⟨hd.sub.cons c, hd.bd, hd.nz⟩⟩
      rw [show n + (ns.length + 1) = n + 1 + ns.length by omega, ← ih]
      unfold pqO at hr ⊢
      simp [F38b0, F38i0, hr, hw, h0, eqD]
    · obtain ⟨ts, y3, y4, ih, hd⟩ := for_tms d x1 (ns := ns) (n := n + 1) (fd := fd ++ [(c, w)]) (x3 := some (.dat (nmD c))) (x4 := some (.dat (.int w))) (by omega) (by simp; omega)
      refine ⟨(c, w) :: ts, y3, y4, ?_, ⟨hd.sub.cons₂ c, fun t ht => ?_, fun t ht => ?_⟩⟩
      · rw [show n + (ns.length + 1) = n + 1 + ns.length by omega, show fd ++ (c, w) :: ts = fd ++ [(c, w)] ++ ts by simp, ← ih]
        unfold pqO at hr ⊢
        simp [F38b0, F38i0, hr, hw, h0, eqD, hlim, tmD, nmD]
      · rcases List.mem_cons.mp ht with e | e
        · subst e; exact hb
        · exact hd.bd t e
      · rcases List.mem_cons.mp ht with e | e
        · subst e; exact h0
        · exact hd.nz t e
theorem c_tms38 (d : Nat) {n : Nat} {ns : List Nat} (hn : n + ns.length ≤ 1000000) (hl : ns.length ≤ 10) : ∃ ts, call PG (d + 2) 38 [.ref 0, .dat (.tup (ns.map nmD))] [pqO T n f] = some (.dat (tmsD ts), [pqO T (n + ns.length) f]) ∧ TmDr ts ns := by
  obtain ⟨ts, y3, y4, hf, h1⟩ := for_tms d (T := T) (f := f) (some (.dat (.tup (ns.map nmD)))) (ns := ns) (n := n) (fd := []) (x3 := none) (x4 := none) (by omega) (by simp; omega)
  refine ⟨ts, ?_, h1⟩
  rw [call_go F38 rfl rfl]
  simp only [List.map_nil, List.nil_append] at hf
  unfold pqO at hf ⊢
  simp [F38, startE, hf, tmsD]
theorem c_rw39 (d : Nat) {n : Nat} {ns : List Nat} (hn : n + ns.length + 2 ≤ 1000000) (hl : ns.length ≤ 10) : ∃ r : Row, call PG (d + 3) 39 [.ref 0, .dat (.tup (ns.map nmD))] [pqO T n f] = some (.dat (rD r), [pqO T (n + ns.length + 2) f]) ∧ RwDr ns r := by
  obtain ⟨ts, e1, h1⟩ := c_tms38 d (T := T) (n := n) (f := f) (ns := ns) (by omega) hl
  obtain ⟨r, e2, r1, r2⟩ := c_tkm (d + 1) (T := T) (n := n + ns.length) (f := f) (by omega) (m := 2) (by decide)
  obtain ⟨q, e3⟩ := c_tk (d + 1) (T := T) (n := n + ns.length + 1) (f := f) (by omega)
  obtain ⟨w, e4, hb⟩ := c_nb36 (d + 1) q
  unfold pqO tmsD at *
  push_cast at e1 e2 e3 ⊢
  have : r.fmod 2 = 0 ∨ r.fmod 2 = 1 := by omega
  rcases this with e | e
  · refine ⟨(false, ts, w), ?_, h1, hb⟩
    rw [call_go F39 rfl rfl]
    simp [F39, startE, e1, e2, e3, e4, e, rD, rowD, tmsD, wd, lst5]
  · refine ⟨(true, ts, w), ?_, h1, hb⟩
    rw [call_go F39 rfl rfl]
    simp [F39, startE, e1, e2, e3, e4, e, rD, rowD, tmsD, wd, mor4]
/-- a sum whose bottom is 1 to 3 -/
structure SmK (ns : List Nat) (s : Sm) : Prop where
  ts : TmDr s.ts ns
  w : Bd 80 s.w
  m0 : 0 < s.m
  m1 : s.m ≤ 3
theorem SmK.ok {ns : List Nat} {s : Sm} (h : SmK ns s) : SmOk ns s := ⟨h.ts, h.w, h.m0, by have := h.m1; omega⟩
theorem SmK.g {ns : List Nat} {s : Sm} (h : SmK ns s) (hl : ns.length ≤ 10) : SmG ns s := ⟨h.ts.ok, by have := h.ts.len; omega, h.w, h.m0, h.m1⟩
theorem RwDr.g {ns : List Nat} {r : Row} (h : RwDr ns r) (hl : ns.length ≤ 10) : RwG ns r := ⟨h.ts.ok, by have := h.ts.len; omega, h.b⟩
theorem c_sm47 (d : Nat) {n : Nat} {ns : List Nat} (hn : n + ns.length + 2 ≤ 1000000) (hl : ns.length ≤ 10) : ∃ s : Sm, call PG (d + 3) 47 [.ref 0, .dat (.tup (ns.map nmD))] [pqO T n f] = some (.dat (smD s), [pqO T (n + ns.length + 2) f]) ∧ SmK ns s := by
  obtain ⟨ts, e1, h1⟩ := c_tms38 d (T := T) (n := n) (f := f) (ns := ns) (by omega) hl
  obtain ⟨q, e3⟩ := c_tk (d + 1) (T := T) (n := n + ns.length) (f := f) (by omega)
  obtain ⟨w, e4, hb⟩ := c_nb36 (d + 1) q
  obtain ⟨r, e2, r1, r2⟩ := c_tkm (d + 1) (T := T) (n := n + ns.length + 1) (f := f) (by omega) (m := 8) (by decide)
  unfold pqO tmsD at *
  push_cast at e1 e2 e3 ⊢
  refine ⟨⟨ts, w, 1 + (if r.fmod 8 - 5 > 0 then r.fmod 8 - 5 else 0)⟩, ?_, h1, hb, ?_, ?_⟩
  · rw [call_go F47 rfl rfl]
    simp [F47, startE, e1, e2, e3, e4, smD]
  · dsimp only; split <;> omega
  · dsimp only; split <;> omega
theorem comp_rw (d : Nat) {ns : List Nat} (hl : ns.length ≤ 10) (x2 : Option Val) : ∀ {ds : List D} {n : Nat}, n + (ns.length + 2) * ds.length ≤ 1000000 →
    ∃ (rs : List Row), COMP (call PG (d + 3)) (.call 39 [true, false] [(.var 0), (.var 1)]) [3] false none [3] ds [some (.ref 0), some (.dat (.tup (ns.map nmD))), x2, none] [pqO T n f] = some (rs.map rD, [pqO T (n + (ns.length + 2) * ds.length) f]) ∧ rs.length = ds.length ∧ ∀ r ∈ rs, RwDr ns r
  | [], n, _ => by refine ⟨[], rfl, rfl, ?_⟩; intro r h; cases h
  | x :: ds, n, hn => by
    simp only [List.length_cons, Nat.mul_succ] at hn ⊢
    obtain ⟨r, e1, h1⟩ := c_rw39 d (T := T) (n := n) (f := f) (ns := ns) (by omega) hl
    obtain ⟨rs, ih, g1, g2⟩ := comp_rw d hl x2 (ds := ds) (n := n + ns.length + 2) (by omega)
    refine ⟨r :: rs, ?_, by simp [g1], fun q hq => ?_⟩
    · rw [COMP_cons, show n + ((ns.length + 2) * ds.length + (ns.length + 2)) = n + ns.length + 2 + (ns.length + 2) * ds.length by omega]
      generalize n + ns.length + 2 = N at e1 ih
      generalize N + (ns.length + 2) * ds.length = M at ih ⊢
      unfold pqO at e1 ih ⊢
      simp [wipeE, e1, ih]
    · rcases List.mem_cons.mp hq with e | e
      · subst e; exact h1
      · exact g2 q e
theorem c_rws48 (d : Nat) {n m : Nat} {ns : List Nat} (hl : ns.length ≤ 10) (hm : m ≤ 10) (hn : n + (ns.length + 2) * m ≤ 1000000) : ∃ rs : List Row, call PG (d + 4) 48 [.ref 0, .dat (.tup (ns.map nmD)), .dat (.int m)] [pqO T n f] = some (.dat (.tup (rs.map rD)), [pqO T (n + (ns.length + 2) * m) f]) ∧ rs.length = m ∧ ∀ r ∈ rs, RwDr ns r := by
  have el : (rngL 0 (m : Int)).length = m := by rw [rngL_len]; omega
  obtain ⟨rs, e, g1, g2⟩ := comp_rw d (T := T) (f := f) (ns := ns) hl (some (.dat (.int m))) (ds := rngL 0 m) (n := n) (by rw [el]; exact hn)
  rw [el] at e g1
  have hr : rngOk 0 (m : Int) = true := rngOk_small (by decide) (by omega) (by omega) (by decide)
  refine ⟨rs, ?_, g1, g2⟩
  rw [call_go F48 rfl rfl]
  generalize n + (ns.length + 2) * m = M at e ⊢
  unfold pqO at e ⊢
  simp [F48, startE, hr, e, fzO]
end
/-- _law_one -/
theorem c_one102 (d : Nat) (x : Nat) {w : Int} (v : Int) (hw : w ≠ 0) : call PG (d + 1) 102 [.dat (nmD x), .dat (.int w), .dat (.int v)] [] = some (.dat (smD ⟨[(x, w)], v, 1⟩), []) := by
  rw [call_go F102 rfl rfl]
  simp [F102, startE, hw, smD, tmD]
end NK
set_option Elab.async false
set_option linter.all false
set_option autoImplicit false
set_option maxRecDepth 100000
namespace NK
open PySem L2
/-! RGenS: statements and blocks that are drawn. In a Bud, at_ counts the draws. -/
def lfL (q : Bud) : List D := [.int q.n, .int q.br, .int q.lp, .int q.an, .int q.nt]
/-- both kinds of good -/
def okgS (ns : List Nat) (s : Stm) : Prop := okS ns s ∧ gS ns s
def okgB (ns : List Nat) (b : List Stm) : Prop := okB ns b ∧ gB ns b
theorem gB_app {ns : List Nat} : ∀ {a b : List Stm}, gB ns (a ++ b) ↔ gB ns a ∧ gB ns b
  | [], b => by simp [gB]
  | s :: a, b => by simp [gB, gB_app (a := a), and_assoc]
/-- the draws are few -/
def fewT (q q' : Bud) (n : Nat) : Prop := q'.at_ + 60 * q'.n ≤ q.at_ + 60 * q.n + n
/-- a statement drawn, j depths below -/
def HS (T : List Int) (f : Int) (ns : List Nat) (d j : Nat) : Prop := ∀ q : Bud, q.at_ + 60 * q.n + 60 ≤ 9000 → ∃ (s : Stm) (q' : Bud), call PG d 106 [.ref 0, .dat (.tup (ns.map nmD)), .dat (.int j), .ref 1] [pqO T q.at_ f, .lst (lfL q)] = some (.dat (sD s), [pqO T q'.at_ f, .lst (lfL q')]) ∧ okgS ns s ∧ ConsS q s q' ∧ depS s ≤ j + 1 ∧ fewT q q' 60
def HB (T : List Int) (f : Int) (ns : List Nat) (d j : Nat) : Prop := ∀ q : Bud, q.at_ + 60 * q.n + 1 ≤ 9000 → ∃ (b : List Stm) (q' : Bud), call PG d 107 [.ref 0, .dat (.tup (ns.map nmD)), .dat (.int j), .ref 1] [pqO T q.at_ f, .lst (lfL q)] = some (.dat (.tup (bD b)), [pqO T q'.at_ f, .lst (lfL q')]) ∧ okgB ns b ∧ ConsB q b q' ∧ depB b ≤ j + 1 ∧ fewT q q' 1
theorem ix5_0 : ix 5 0 = some 0 := rfl
theorem ix5_1 : ix 5 1 = some 1 := rfl
theorem ix5_2 : ix 5 2 = some 2 := rfl
theorem ix5_3 : ix 5 3 = some 3 := rfl
theorem ix5_4 : ix 5 4 = some 4 := rfl
section
variable {T : List Int} {f : Int} {ns : List Nat}
theorem for_hblk {d j : Nat} (h : HS T f ns d j) : ∀ {ds : List D} {q : Bud} {bs : List Stm} {x5 : Option Val}, q.at_ + 60 * q.n ≤ 9000 → bs.length + ds.length ≤ 100 →
    ∃ (b2 : List Stm) (q' : Bud) (y5 : Option Val), FOR (call PG d) [5] false F107b0 ds [some (.ref 0), some (.dat (.tup (ns.map nmD))), some (.dat (.int j)), some (.ref 1), some (.ref 2), x5] [pqO T q.at_ f, .lst (lfL q), .lst (bD bs)] =
      some (.nx [some (.ref 0), some (.dat (.tup (ns.map nmD))), some (.dat (.int j)), some (.ref 1), some (.ref 2), y5] [pqO T q'.at_ f, .lst (lfL q'), .lst (bD (bs ++ b2))]) ∧ okgB ns b2 ∧ ConsB q b2 q' ∧ depB b2 ≤ j + 1 ∧ fewT q q' 0
  | [], q, bs, x5, _, _ => ⟨[], q, x5, by rw [List.append_nil]; rfl, ⟨trivial, trivial⟩, ConsB.nil, Nat.zero_le _, Nat.le_refl _⟩
  | x :: ds, q, bs, x5, hq, hl => by
    simp only [List.length_cons] at hl
    by_cases hn : 0 < q.n
    · obtain ⟨at_, n, br, lp, an, nt⟩ := q
      obtain ⟨n', rfl⟩ : ∃ n', n = n' + 1 := ⟨n - 1, by dsimp only at hn; omega⟩
      dsimp only at hq
      obtain ⟨s, q1, e1, ok1, c1, dp1, t1⟩ := h ⟨at_, n', br, lp, an, nt⟩ (by dsimp only; omega)
      unfold fewT at t1
      dsimp only at t1 e1
      obtain ⟨b2, q2, y5, e2, ok2, c2, dp2, t2⟩ := for_hblk h (ds := ds) (q := q1) (bs := bs ++ [s]) (x5 := some (.dat x)) (by omega) (by simp; omega)
      unfold fewT at t2
      refine ⟨s :: b2, q2, y5, ?_, ⟨⟨ok1.1, ok2.1⟩, ⟨ok1.2, ok2.2⟩⟩, ?_, ?_, ?_⟩
      · rw [FOR_cons, show bs ++ s :: b2 = bs ++ [s] ++ b2 by simp, ← e2]
        have hl2 : (bD bs).length < LIM := by rw [bD_map, List.length_map]; unfold LIM; omega
        rw [bD_app]
        unfold pqO lfL at e1 ⊢
        have z1 : ((n' + 1 : Nat) : Int) - 1 = (n' : Int) := by omega
        have z2 : (0 : Int) < ((n' + 1 : Nat) : Int) := by omega
        simp only [z1, z2, F107b0, F107i0, bT_one, ob_some, List.set] at e1 ⊢
        simp [z1, z2, ix5_0, e1, hl2, bD]
      · exact (c1.toB (n := n' + 1) rfl).app c2
      · simp only [depB]
        omega
      · unfold fewT; dsimp only; omega
    · obtain ⟨b2, q2, y5, e2, ok2, c2, dp2, t2⟩ := for_hblk h (ds := ds) (q := q) (bs := bs) (x5 := some (.dat x)) hq (by omega)
      refine ⟨b2, q2, y5, ?_, ok2, c2, dp2, t2⟩
      rw [FOR_cons, ← e2]
      have hn' : q.n = 0 := by omega
      unfold pqO lfL
      simp [F107b0, F107i0, hn']
theorem hb_of {d j : Nat} (h : HS T f ns (d + 1) j) : HB T f ns (d + 2) j := by
  intro q hq
  obtain ⟨r, e1, r1, r2⟩ := c_tkm d (T := T) (f := f) (n := q.at_) (by omega) (m := 4) (by decide)
  obtain ⟨m, hm, hm5⟩ : ∃ m : Nat, r.fmod 4 + (if (decide ((j : Int) = 3)) then 1 else 0) = (m : Int) ∧ m ≤ 5 := by
    split
    · exact ⟨(r.fmod 4 + 1).toNat, by omega, by omega⟩
    · exact ⟨(r.fmod 4).toNat, by omega, by omega⟩
  obtain ⟨b2, q2, y5, e3, ok, c, dp, t⟩ := for_hblk h (ds := rngL 0 m) (q := { q with at_ := q.at_ + 1 }) (bs := []) (x5 := none) (by dsimp only; omega) (by rw [rngL_len]; simp; omega)
  have hr : rngOk 0 (m : Int) = true := rngOk_small (by decide) (by omega) (by omega) (by decide)
  unfold fewT at t
  dsimp only at t
  refine ⟨b2, q2, ?_, ok, ?_, dp, by unfold fewT; omega⟩
  · rw [call_go F107 rfl rfl]
    simp only [List.nil_append, bD] at e3
    unfold pqO lfL at *
    dsimp only at e3
    simp at hm
    push_cast at e3
    simp [F107, startE, e1]
    rw [hm]
    simp [hr, e3]
  · obtain ⟨h1, h2, h3, h4, h5, h6⟩ := c
    exact ⟨by dsimp only at h1; omega, h2, h3, h4, h5, h6⟩
/-- how many loops -/
theorem for_loops (d : Nat) (x0 : Option Val) : ∀ {b : List Stm} {n : Nat} {x2 : Option Val}, (∀ s ∈ b, ∀ c ∈ blks s, call PG d 104 [.dat (.tup (bD c))] [] = some (.dat (.int (cntB wLp c)), [])) → ∃ y2, FOR (call PG d) [2] false F104b0 (bD b) [x0, some (.dat (.int n)), x2] [] = some (.nx [x0, some (.dat (.int (n + cntB wLp b : Nat))), y2] [])
  | [], n, x2, _ => ⟨x2, rfl⟩
  | s :: b, n, x2, h => by
    obtain ⟨y2, ih⟩ := for_loops d x0 (b := b) (n := n + cntS wLp s) (x2 := some (.dat (sD s))) fun t ht => h t (List.mem_cons_of_mem _ ht)
    refine ⟨y2, ?_⟩
    have hs := h s List.mem_cons_self
    simp only [bD, cntB]
    rw [FOR_cons, ← Nat.add_assoc, ← ih]
    cases s with
    | set x s => simp [F104b0, F104i0, F104i1, F104i2, sD, cntS, wLp]
    | any x => simp [F104b0, F104i0, F104i1, F104i2, sD, cntS, wLp]
    | note rs => simp [F104b0, F104i0, F104i1, F104i2, sD, cntS, wLp]
    | cho a c =>
      have ha := hs a (by simp [blks])
      have hc := hs c (by simp [blks])
      simp [F104b0, F104i0, F104i1, F104i2, sD, cntS, wLp, ha, hc, Int.add_assoc]
    | ite r a c =>
      have ha := hs a (by simp [blks])
      have hc := hs c (by simp [blks])
      simp [F104b0, F104i0, F104i1, F104i2, sD, cntS, wLp, ha, hc, Int.add_assoc]
    | whl r rs f c =>
      have hc := hs c (by simp [blks])
      simp [F104b0, F104i0, F104i1, F104i2, sD, cntS, wLp, hc, Int.add_assoc]
theorem c_loops104 : ∀ (j d : Nat) {b : List Stm}, depB b ≤ j → call PG (d + j + 1) 104 [.dat (.tup (bD b))] [] = some (.dat (.int (cntB wLp b)), [])
  | 0, d, b, hb => by
    cases b with
    | nil =>
      rw [call_go F104 rfl rfl]
      simp [F104, startE, bD, FOR_nil, cntB]
    | cons s b =>
      have := depS_pos s
      simp only [depB] at hb
      omega
  | j + 1, d, b, hb => by
    obtain ⟨y2, e⟩ := for_loops (d + (j + 1)) (some (.dat (.tup (bD b)))) (b := b) (n := 0) (x2 := none) fun s hs c hc => by
      have h1 := depB_mem s hs
      have := c_loops104 j d (b := c) (by
        cases s <;> simp only [blks, List.mem_cons, List.not_mem_nil, or_false, false_or] at hc <;> simp only [depS] at h1
        all_goals first | (exact absurd hc id) | (rcases hc with e | e <;> subst e <;> omega) | (subst hc; omega))
      exact this
    rw [Nat.zero_add] at e
    rw [show d + (j + 1) + 1 = (d + (j + 1)) + 1 from rfl, call_go F104 rfl rfl]
    have e' : ((0 : Nat) : Int) = 0 := rfl
    rw [e'] at e
    simp [F104, startE, e]
end
end NK
set_option Elab.async false
set_option linter.all false
set_option autoImplicit false
set_option maxRecDepth 100000
namespace NK
open PySem L2
section
variable {T : List Int} {f : Int} {ns : List Nat}
theorem z_succ (j : Nat) : ((j + 1 : Nat) : Int) - 1 = (j : Int) := by omega
/-- a loop that is drawn -/
theorem c_loop105 {d j : Nat} (hns : ns.length ≤ 3) (h : HB T f ns (d + 9) j) (hj : j + 1 ≤ d + 8) {q : Bud} (hq : q.at_ + 60 * q.n + 40 ≤ 9000) : ∃ (s : Stm) (q' : Bud), call PG (d + 10) 105 [.ref 0, .dat (.tup (ns.map nmD)), .dat (.int (j + 1 : Nat)), .ref 1] [pqO T q.at_ f, .lst (lfL q)] = some (.dat (sD s), [pqO T q'.at_ f, .lst (lfL q')]) ∧ okgS ns s ∧ fewT q q' 35 ∧
    ∃ r rs fe bl, s = .whl r rs fe bl ∧ ConsB q bl q' ∧ depB bl ≤ j + 1 := by
  obtain ⟨at_, n, br, lp, an, nt⟩ := q
  dsimp only at hq
  obtain ⟨r, e1, hr⟩ := c_rw39 (d + 6) (T := T) (f := f) (n := at_) (ns := ns) (by omega) (by omega)
  obtain ⟨t, e2, t1, t2⟩ := c_tkm (d + 8) (T := T) (f := f) (n := at_ + ns.length + 2) (by omega) (m := 3) (by decide)
  obtain ⟨m, hm⟩ : ∃ m : Nat, t.fmod 3 = (m : Int) := ⟨(t.fmod 3).toNat, by omega⟩
  have hmb : (ns.length + 2) * m ≤ 5 * 2 := Nat.mul_le_mul (by omega) (by omega)
  obtain ⟨rs, e3, hl3, hrs⟩ := c_rws48 (d + 5) (T := T) (f := f) (n := at_ + ns.length + 2 + 1) (m := m) (ns := ns) (by omega) (by omega) (by omega)
  generalize ha3 : at_ + ns.length + 2 + 1 + (ns.length + 2) * m = a3 at e3
  obtain ⟨bl, q1, e4, okb, cb, db, tb⟩ := h ⟨a3, n, br, lp, an, nt⟩ (by dsimp only; omega)
  unfold fewT at tb
  dsimp only at tb e4
  obtain ⟨u, e5, u1, u2⟩ := c_tkm (d + 8) (T := T) (f := f) (n := q1.at_) (by omega) (m := 2) (by decide)
  have e6 := c_loops104 (j + 1) (d + 9 - (j + 1) - 1) (b := bl) db
  rw [show d + 9 - (j + 1) - 1 + (j + 1) + 1 = d + 9 by omega] at e6
  have mid : ∃ fe a5, q1.at_ ≤ a5 ∧ a5 ≤ q1.at_ + 7 ∧ (∀ p, fe = some p → SmK ns p.1 ∧ 0 < p.2 ∧ p.2 ≤ 3 ∧ cntB wLp bl = 0) ∧ evS (call PG (d + 9)) F105i0 [some (.ref 0), some (.dat (.tup (ns.map nmD))), some (.dat (.int (j + 1 : Nat))), some (.ref 1), some (.dat (rD r)), some (.dat (.tup (rs.map rD))), some (.dat (.tup (bD bl))), some (.dat .non)] [pqO T q1.at_ f, .lst (lfL q1)] =
      some (.nx [some (.ref 0), some (.dat (.tup (ns.map nmD))), some (.dat (.int (j + 1 : Nat))), some (.ref 1), some (.dat (rD r)), some (.dat (.tup (rs.map rD))), some (.dat (.tup (bD bl))), some (.dat (feD fe))] [pqO T a5 f, .lst (lfL q1)]) := by
    by_cases hu : u.fmod 2 = 0 ∧ cntB wLp bl = 0
    · obtain ⟨hu, hl⟩ := hu
      obtain ⟨s, e7, hs⟩ := c_sm47 (d + 6) (T := T) (f := f) (n := q1.at_ + 1) (ns := ns) (by omega) (by omega)
      obtain ⟨v, e8, v1, v2⟩ := c_tkm (d + 8) (T := T) (f := f) (n := q1.at_ + 1 + ns.length + 2) (by omega) (m := 3) (by decide)
      refine ⟨some (s, 1 + v.fmod 3), q1.at_ + 1 + ns.length + 2 + 1, by omega, by omega, fun p hp => ?_, ?_⟩
      · cases hp
        exact ⟨hs, by dsimp only; omega, by dsimp only; omega, hl⟩
      · rw [hl] at e6
        generalize q1.at_ + 1 + ns.length + 2 + 1 = A at *
        generalize q1.at_ + 1 + ns.length + 2 = B at *
        generalize q1.at_ + 1 = C0 at *
        unfold pqO lfL at *
        simp at e6
        simp [F105i0, e5, hu, e6, e7, e8, feD]
    · refine ⟨none, q1.at_ + 1, by omega, by omega, fun p hp => (nomatch hp), ?_⟩
      generalize q1.at_ + 1 = C0 at *
      unfold pqO lfL at *
      by_cases hu0 : u.fmod 2 = 0
      · have hl : ¬ cntB wLp bl = 0 := fun z => hu ⟨hu0, z⟩
        simp [F105i0, e5, hu0, e6, hl, feD]
      · simp [F105i0, e5, hu0, feD]
  obtain ⟨fe, a5, g1, g2, hf, emid⟩ := mid
  refine ⟨.whl r rs fe bl, { q1 with at_ := a5 }, ?_, ⟨⟨hr, hrs, by omega, fun p hp => ?_, okb.1⟩, hr.g (by omega), fun r hr => (hrs r hr).g (by omega), fun p hp => ?_, okb.2⟩, ?_, r, rs, fe, bl, rfl, ?_, db⟩
  · rw [call_go F105 rfl rfl]
    generalize at_ + ns.length + 2 + 1 = A at *
    generalize at_ + ns.length + 2 = B at *
    unfold pqO lfL at *
    dsimp only at e4 ⊢
    simp [F105, startE, e1, e2, hm, e3, e4]
    simp at emid
    simp [emid, sD]
  · obtain ⟨h1, h2, h3, h4⟩ := hf p hp
    exact ⟨h1.ok, h2, Bd.of_le (b := 3) (by omega) (by decide), h4⟩
  · obtain ⟨h1, h2, h3, h4⟩ := hf p hp
    exact ⟨h1.g (by omega), Bd.of_le (b := 3) (by omega) (by decide)⟩
  · unfold fewT; dsimp only; omega
  · obtain ⟨h1, h2, h3, h4, h5, h6⟩ := cb
    exact ⟨by dsimp only at h1 ⊢; omega, h2, h3, h4, h5, h6⟩
end
end NK
set_option Elab.async false
set_option linter.all false
set_option autoImplicit false
set_option maxRecDepth 100000
namespace NK
open PySem L2
section
variable {T : List Int} {f : Int} {ns : List Nat}
theorem min_nat {t : Int} {nt : Nat} (h0 : 0 ≤ t) (h1 : t < 2) : ∃ m : Nat, (if (1 + t : Int) < (nt : Int) then 1 + t else (nt : Int)) = (m : Int) ∧ m ≤ nt ∧ m ≤ 2 := by
  by_cases hc : (1 + t : Int) < (nt : Int)
  · rw [if_pos hc]; exact ⟨(1 + t).toNat, by omega, by omega, by omega⟩
  · rw [if_neg hc]; exact ⟨nt, rfl, Nat.le_refl _, by omega⟩
theorem c_st106 {d j : Nat} (hns : ns.length ≤ 3) (hn1 : 1 ≤ ns.length) (h : j = 0 ∨ ∃ i, j = i + 1 ∧ i + 1 ≤ d + 8 ∧ HB T f ns (d + 9) i ∧ HB T f ns (d + 10) i) : HS T f ns (d + 11) j := by
  intro q hq
  obtain ⟨at_, n, br, lp, an, nt⟩ := q
  dsimp only at hq
  obtain ⟨r, e1, r1, r2⟩ := c_tkm (d + 9) (T := T) (f := f) (n := at_) (by omega) (m := 12) (by decide)
  obtain ⟨k, hk⟩ : ∃ k : Nat, r.fmod 12 = (k : Int) := ⟨(r.fmod 12).toNat, by omega⟩
  have hk12 : k < 12 := by omega
  generalize ha1 : at_ + 1 = a1 at e1
  obtain ⟨t, e2, t1, t2⟩ := c_tkm (d + 9) (T := T) (f := f) (n := a1) (by omega) (m := (ns.length : Int)) (by omega)
  generalize ha2 : a1 + 1 = a2 at e2
  obtain ⟨x, ex, hx⟩ := nmD_at t1 t2
  have hl0 : ¬ (ns.length : Int) = 0 := by omega
  have hl0' : ¬ ns = [] := by intro e; rw [e] at hn1; simp at hn1
  by_cases h0 : k = 11 ∧ 0 < an
  · obtain ⟨rfl, han⟩ := h0
    obtain ⟨l', rfl⟩ : ∃ l', an = l' + 1 := ⟨an - 1, by omega⟩
    refine ⟨.any x, ⟨a2, n, br, lp, l', nt⟩, ?_, ⟨hx, hx⟩, ⟨?_, ?_, ?_, ?_, ?_, ?_⟩, ?_, ?_⟩
    · rw [call_go F106 rfl rfl]
      have z1 : (0 : Int) < (l' : Int) + 1 := by omega
      unfold pqO lfL at *
      push_cast at e1 e2
      simp [F106, startE, e1, e2, hk, hl0, hl0', ex, z1, ix5_3, sD]
    all_goals simp only [cntS, w1, wBr, wLp, wAn, wNt, depS, fewT]
    all_goals omega
  have hl11 : ¬ ((k : Int) = 11 ∧ 0 < an) := by omega
  by_cases h1 : 8 < k ∧ 0 < lp ∧ 0 < j
  · obtain ⟨h1, hlp, hj⟩ := h1
    obtain ⟨i, rfl, hi, hB, hB6⟩ : ∃ i, j = i + 1 ∧ i + 1 ≤ d + 8 ∧ HB T f ns (d + 9) i ∧ HB T f ns (d + 10) i := by
      rcases h with h | h
      · omega
      · exact h
    obtain ⟨l', rfl⟩ : ∃ l', lp = l' + 1 := ⟨lp - 1, by omega⟩
    obtain ⟨s, q', e3, oks, tb, r', rs, fe, bl, rfl, cb, db⟩ := c_loop105 (d := d) hns hB hi (q := ⟨a2, n, br, l', an, nt⟩) (by dsimp only; omega)
    obtain ⟨c1, c2, c3, c4, c5, c6⟩ := cb
    unfold fewT at tb
    refine ⟨_, q', ?_, oks, ⟨?_, ?_, ?_, ?_, ?_, ?_⟩, ?_, ?_⟩
    · rw [call_go F106 rfl rfl]
      have z1 : (0 : Int) < (l' : Int) + 1 := by omega
      have z2 : (8 : Int) < (k : Int) := by omega
      have z3 : (0 : Int) < (i : Int) + 1 := by omega
      dsimp only at e3
      unfold pqO lfL at *
      push_cast at e1 e2 e3 ⊢
      simp [F106, startE, e1, e2, hk, hl0, hl0', ex, ite_bl, hl11, z1, z2, z3, ix5_2]
      simp [e3]
    all_goals simp only [cntS, w1, wBr, wLp, wAn, wNt, depS, fewT]
    all_goals dsimp only at c1 c2 c3 c4 c5 c6 tb
    all_goals omega
  have hl8 : ¬ ((8 : Int) < (k : Int) ∧ 0 < lp ∧ 0 < j) := by omega
  by_cases h2 : 5 < k ∧ 0 < br ∧ 0 < j
  · obtain ⟨h2, hbr, hj⟩ := h2
    obtain ⟨i, rfl, hi, hB, hB6⟩ : ∃ i, j = i + 1 ∧ i + 1 ≤ d + 8 ∧ HB T f ns (d + 9) i ∧ HB T f ns (d + 10) i := by
      rcases h with h | h
      · omega
      · exact h
    obtain ⟨l', rfl⟩ : ∃ l', br = l' + 1 := ⟨br - 1, by omega⟩
    obtain ⟨row, e5, hr⟩ := c_rw39 (d + 7) (T := T) (f := f) (n := a2) (ns := ns) (by omega) (by omega)
    generalize ha3 : a2 + ns.length + 2 = a3 at e5
    obtain ⟨xb, q1, e3, okx, cx, dx, tx⟩ := hB6 ⟨a3, n, l', lp, an, nt⟩ (by dsimp only; omega)
    unfold fewT at tx
    dsimp only at tx
    obtain ⟨yb, q2, e4, oky, cy, dy, ty⟩ := hB6 q1 (by omega)
    unfold fewT at ty
    obtain ⟨c1, c2, c3, c4, c5, c6⟩ := cx
    obtain ⟨g1, g2, g3, g4, g5, g6⟩ := cy
    have z1 : (0 : Int) < (l' : Int) + 1 := by omega
    have z2 : (5 : Int) < (k : Int) := by omega
    have z3 : (0 : Int) < (i : Int) + 1 := by omega
    have hl8' : ¬ ((8 : Int) < (k : Int) ∧ 0 < lp) := by omega
    have hm2 : (k : Int).fmod 2 = 0 ∨ (k : Int).fmod 2 = 1 := by
      have := Int.fmod_nonneg_of_pos (k : Int) (b := 2) (by decide)
      have := Int.fmod_lt_of_pos (k : Int) (b := 2) (by decide)
      omega
    rcases hm2 with hm2 | hm2
    · refine ⟨.cho xb yb, q2, ?_, ⟨⟨okx.1, oky.1⟩, okx.2, oky.2⟩, ⟨?_, ?_, ?_, ?_, ?_, ?_⟩, ?_, ?_⟩
      · rw [call_go F106 rfl rfl]
        dsimp only at e3
        unfold pqO lfL at *
        push_cast at e1 e2 e3 e4 e5 ⊢
        simp [F106, startE, e1, e2, hk, hl0, hl0', ex, ite_bl, hl11, hl8, hl8', z1, z2, z3, ix5_1]
        simp [e5, e3, e4, hm2, sD]
      all_goals simp only [cntS, w1, wBr, wLp, wAn, wNt, depS, fewT]
      all_goals dsimp only at c1 c2 c3 c4 c5 c6
      all_goals omega
    · refine ⟨.ite row xb yb, q2, ?_, ⟨⟨hr, okx.1, oky.1⟩, hr.g (by omega), okx.2, oky.2⟩, ⟨?_, ?_, ?_, ?_, ?_, ?_⟩, ?_, ?_⟩
      · rw [call_go F106 rfl rfl]
        dsimp only at e3
        unfold pqO lfL at *
        push_cast at e1 e2 e3 e4 e5 ⊢
        simp [F106, startE, e1, e2, hk, hl0, hl0', ex, ite_bl, hl11, hl8, hl8', z1, z2, z3, ix5_1]
        simp [e5, e3, e4, hm2, sD]
      all_goals simp only [cntS, w1, wBr, wLp, wAn, wNt, depS, fewT]
      all_goals dsimp only at c1 c2 c3 c4 c5 c6
      all_goals omega
  have hl5 : ¬ ((5 : Int) < (k : Int) ∧ 0 < br ∧ 0 < j) := by omega
  by_cases h4 : 3 < k ∧ 0 < nt
  · obtain ⟨h4, hnt⟩ := h4
    obtain ⟨u, e3, u1, u2⟩ := c_tkm (d + 9) (T := T) (f := f) (n := a2) (by omega) (m := 2) (by decide)
    generalize ha22 : a2 + 1 = a22 at e3
    generalize hu : u.fmod 2 = uu at u1 u2
    obtain ⟨m, hmin, hm1, hm2⟩ := min_nat (nt := nt) u1 u2
    have hmb : (ns.length + 2) * m ≤ 5 * 2 := Nat.mul_le_mul (by omega) (by omega)
    obtain ⟨rs, e5, hlen, hrs⟩ := c_rws48 (d + 6) (T := T) (f := f) (n := a22) (m := m) (ns := ns) (by omega) (by omega) (by omega)
    generalize ha3 : a22 + (ns.length + 2) * m = a3 at e5
    refine ⟨.note rs, ⟨a3, n, br, lp, an, nt - m⟩, ?_, ⟨hrs, fun r hr => (hrs r hr).g (by omega)⟩, ⟨?_, ?_, ?_, ?_, ?_, ?_⟩, ?_, ?_⟩
    · rw [call_go F106 rfl rfl]
      have hsub : ((nt - m : Nat) : Int) = (nt : Int) - (m : Int) := by omega
      have z1 : (0 : Int) < (nt : Int) := by omega
      have z2 : (3 : Int) < (k : Int) := by omega
      unfold pqO lfL at *
      dsimp only
      simp only [hsub]
      push_cast at e1 e2 e3 e5
      simp [F106, startE, e1, e2, hk, hl0, hl0', ex, ite_bl, hl11, hl8, hl5, z1, z2, hnt, ix5_4]
      generalize (nt : Int) = NT at *
      generalize hM : (m : Int) = M at *
      simp [e3, hu, sD]
      rw [hmin]
      simp [e5, hM, hlen, ix5_4]
    all_goals simp only [cntS, w1, wBr, wLp, wAn, wNt, depS, fewT]
    all_goals omega
  have hl3 : ¬ ((3 : Int) < (k : Int) ∧ 0 < nt) := by omega
  obtain ⟨s, e4, hs⟩ := c_sm47 (d + 7) (T := T) (f := f) (n := a2) (ns := ns) (by omega) (by omega)
  refine ⟨.set x s, ⟨a2 + ns.length + 2, n, br, lp, an, nt⟩, ?_, ⟨⟨hx, hs.ok⟩, hx, hs.g (by omega)⟩, ⟨?_, ?_, ?_, ?_, ?_, ?_⟩, ?_, ?_⟩
  · rw [call_go F106 rfl rfl]
    generalize a2 + ns.length + 2 = a4 at *
    unfold pqO lfL at *
    push_cast at e1 e2 e4 ⊢
    simp [F106, startE, e1, e2, hk, hl0, hl0', ex, ite_bl, hl11, hl8, hl5, hl3]
    simp [e4, sD]
  all_goals simp only [cntS, w1, wBr, wLp, wAn, wNt, depS, fewT]
  all_goals omega
theorem hs_all (hns : ns.length ≤ 3) (hn1 : 1 ≤ ns.length) : ∀ (j d : Nat), HS T f ns (d + 3 * j + 11) j
  | 0, d => c_st106 hns hn1 (.inl rfl)
  | j + 1, d => by
    rw [show d + 3 * (j + 1) + 11 = d + 3 * j + 3 + 11 by omega]
    refine c_st106 hns hn1 (.inr ⟨j, rfl, by omega, ?_, ?_⟩)
    · have := hb_of (d := d + 3 * j + 10) (hs_all hns hn1 j d)
      exact this
    · have h1 := hs_all hns hn1 j (d + 1)
      rw [show d + 1 + 3 * j + 11 = d + 3 * j + 11 + 1 by omega] at h1
      have := hb_of (d := d + 3 * j + 11) h1
      exact this
end
end NK
set_option Elab.async false
set_option linter.all false
set_option autoImplicit false
set_option maxRecDepth 100000
namespace NK
open PySem L2
/-! RGenP: the plans of the later laws -/
section
variable {ns : List Nat}
theorem tm1 {x : Nat} {w : Int} (hx : x ∈ ns) (hw : w ≠ 0) (hb : Bd 80 w) : TmDr [(x, w)] ns := ⟨by simpa using List.singleton_sublist.mpr hx, fun t ht => by rw [List.mem_singleton.mp ht]; exact hb, fun t ht => by rw [List.mem_singleton.mp ht]; exact hw⟩
theorem bd1 : Bd 80 1 := bd_lit
theorem bdn1 : Bd 80 (-1) := bd_lit
theorem bd_sm {i : Int} (h : i.natAbs ≤ 1000) : Bd 80 i := Bd.of_le h (by decide)
theorem rw1 {m : Bool} {x : Nat} {b : Int} (hx : x ∈ ns) (hb : b.natAbs ≤ 1000) : RwDr ns (m, [(x, 1)], b) := ⟨tm1 hx (by decide) bd1, bd_sm hb⟩
theorem sm1 {x : Nat} {w v : Int} (hx : x ∈ ns) (hw : w = 1 ∨ w = -1) (hv : v.natAbs ≤ 1000) : SmK ns ⟨[(x, w)], v, 1⟩ := ⟨tm1 hx (by rcases hw with e | e <;> subst e <;> decide) (by rcases hw with e | e <;> subst e <;> exact bd_lit), bd_sm hv, by show (0 : Int) < 1; decide, by show (1 : Int) ≤ 3; decide⟩
/-- the first and the last name -/
structure XY (ns : List Nat) (x y : Nat) : Prop where
  x0 : at? (ns.map nmD) 0 = some (nmD x)
  y0 : at? (ns.map nmD) (-1) = some (nmD y)
  x1 : x ∈ ns
  y1 : y ∈ ns
  xy : x ≠ y → [x, y].Sublist ns
theorem xy_of (h : NmOk ns) : ∃ x y, XY ns x y := by
  have h3 := h.len
  have h1 := h.pos
  match ns, h1, h3 with
  | [a], _, _ => exact ⟨a, a, rfl, rfl, by simp, by simp, fun e => absurd rfl e⟩
  | [a, b], _, _ => exact ⟨a, b, rfl, rfl, by simp, by simp, fun _ => List.Sublist.refl _⟩
  | [a, b, c], _, _ => exact ⟨a, c, rfl, rfl, by simp, by simp, fun _ => ((List.Sublist.refl [c]).cons b).cons₂ a⟩
def both (x y : Nat) : List (Nat × Int) := if x = y then [(x, 2)] else [(x, 1), (y, 1)]
theorem both_ok {x y : Nat} (h : XY ns x y) : TmDr (both x y) ns := by
  unfold both
  split
  · exact tm1 h.x1 (by decide) bd_lit
  · rename_i hne
    refine ⟨by simpa using h.xy hne, fun t ht => ?_, fun t ht => ?_⟩ <;> simp at ht <;> rcases ht with rfl | rfl <;> dsimp only <;> first | exact bd_lit | decide
theorem rw2 {x y : Nat} {b : Int} (h : XY ns x y) (hb : b.natAbs ≤ 1000) : RwDr ns (false, both x y, b) := ⟨both_ok h, bd_sm hb⟩
theorem eq_nm {x y : Nat} {st : Sto} : cmpV .eq (.dat (nmD x)) (.dat (nmD y)) st = some (decide (x = y)) := by
  unfold nmD
  rw [c_eqS]
  congr 1
  rw [Bool.eq_iff_iff]
  simp
/-- what the menus' loop is like -/
structure TlOk (ns : List Nat) (x y : Nat) (lp nt : Stm) (k1 k2 r3 : Row) : Prop where
  elp : ∃ row fe bl, lp = .whl row [k1, k2] fe bl
  ent : nt = .note [r3]
  ok : okgS ns lp
  hk1 : RwDr ns k1
  hk2 : RwDr ns k2
  hr3 : RwDr ns r3
  w1 : cntS NK.w1 lp ≤ 6
  br : cntS wBr lp ≤ 1
  lo : cntS wLp lp = 1
  an : cntS wAn lp = 0
  no : cntS wNt lp = 0
  dp : depS lp ≤ 3
theorem okg_set {x : Nat} {s : Sm} (hx : x ∈ ns) (hs : SmK ns s) (hl : ns.length ≤ 3) : okgS ns (.set x s) := ⟨⟨hx, hs.ok⟩, hx, hs.g (by omega)⟩
theorem okg_whl {r : Row} {rs : List Row} {fe : Option (Sm × Int)} {b : List Stm} (hl : ns.length ≤ 3) (h1 : RwDr ns r) (h2 : ∀ r ∈ rs, RwDr ns r) (h3 : rs.length ≤ 2) (h4 : ∀ p, fe = some p → SmK ns p.1 ∧ 0 < p.2 ∧ p.2 ≤ 1000 ∧ cntB wLp b = 0) (h5 : okgB ns b) : okgS ns (.whl r rs fe b) := by
  refine ⟨⟨h1, h2, h3, fun p hp => ?_, h5.1⟩, h1.g (by omega), fun r hr => (h2 r hr).g (by omega), fun p hp => ?_, h5.2⟩
  · obtain ⟨a, b, c, e⟩ := h4 p hp
    exact ⟨a.ok, b, Bd.of_le (b := 1000) (by omega) (by decide), e⟩
  · obtain ⟨a, b, c, e⟩ := h4 p hp
    exact ⟨a.g (by omega), Bd.of_le (b := 1000) (by omega) (by decide)⟩
theorem okgB_nil : okgB ns [] := ⟨trivial, trivial⟩
theorem okgB_cons {s : Stm} {b : List Stm} (h : okgS ns s) (k : okgB ns b) : okgB ns (s :: b) := ⟨⟨h.1, k.1⟩, ⟨h.2, k.2⟩⟩
theorem okgB_app {a b : List Stm} (h : okgB ns a) (k : okgB ns b) : okgB ns (a ++ b) := ⟨okB_app.mpr ⟨h.1, k.1⟩, gB_app.mpr ⟨h.2, k.2⟩⟩
theorem okg_cho {a b : List Stm} (h : okgB ns a) (k : okgB ns b) : okgS ns (.cho a b) := ⟨⟨h.1, k.1⟩, ⟨h.2, k.2⟩⟩
theorem okg_ite {r : Row} {a b : List Stm} (hl : ns.length ≤ 3) (hr : RwDr ns r) (h : okgB ns a) (k : okgB ns b) : okgS ns (.ite r a b) := ⟨⟨hr, h.1, k.1⟩, ⟨hr.g (by omega), h.2, k.2⟩⟩
theorem okg_note {rs : List Row} (hl : ns.length ≤ 3) (h : ∀ r ∈ rs, RwDr ns r) : okgS ns (.note rs) := ⟨h, fun r hr => (h r hr).g (by omega)⟩
theorem okg_any {x : Nat} (hx : x ∈ ns) : okgS ns (.any x) := ⟨hx, hx⟩
theorem c_tail103 (d : Nat) {T : List Int} {f : Int} {n : Nat} (hn : n ≤ 100000) (hns : ns.length ≤ 3) {x y : Nat} (hxy : XY ns x y) (pick : Int) : ∃ lp nt k1 k2 r3 n', call PG (d + 2) 103 [.ref 0, .dat (.tup (ns.map nmD)), .dat (.int pick)] [pqO T n f] = some (.dat (.lst [sD lp, sD nt]), [pqO T n' f]) ∧ n ≤ n' ∧ n' ≤ n + 5 ∧ TlOk ns x y lp nt k1 k2 r3 := by
  obtain ⟨r1, e1, a1, b1⟩ := c_tkm d (T := T) (f := f) (n := n) (by omega) (m := 3) (by decide)
  obtain ⟨r2, e2, a2, b2⟩ := c_tkm d (T := T) (f := f) (n := n + 1) (by omega) (m := 5) (by decide)
  obtain ⟨r3, e3, a3, b3⟩ := c_tkm d (T := T) (f := f) (n := n + 1 + 1) (by omega) (m := 2) (by decide)
  obtain ⟨r4, e4, a4, b4⟩ := c_tkm d (T := T) (f := f) (n := n + 1 + 1 + 1) (by omega) (m := 2) (by decide)
  obtain ⟨r5, e5, a5, b5⟩ := c_tkm d (T := T) (f := f) (n := n + 1 + 1 + 1 + 1) (by omega) (m := 2) (by decide)
  have o1 := fun v => c_one102 d x (w := 1) v (by decide)
  have o2 := fun v => c_one102 d y (w := 1) v (by decide)
  have hx := hxy.x0
  have hy := hxy.y0
  have hm3 : ¬ (3 : Int) = 0 := by decide
  generalize h1 : r1.fmod 3 = s1 at a1 b1
  generalize h2 : r2.fmod 5 = s2 at a2 b2
  generalize h3 : r3.fmod 2 = s3 at a3 b3
  generalize h4 : r4.fmod 2 = s4 at a4 b4
  generalize h5 : r5.fmod 2 = s5 at a5 b5
  have hbt : at? [D.tup [D.tup [nmD x, .int 1], D.tup [nmD y, .int 1]], D.tup [D.tup [nmD x, .int 2]]] (if x = y then 1 else 0) = some (tmsD (both x y)) := by
    unfold both
    split <;> simp [tmsD, tmD]
  have lim5 : 5 ≤ LIM := by decide
  have cut3 : ∀ a b c e g : D, cutL [a, b, c, e, g] none (some 3) = [a, b, c] := fun _ _ _ _ _ => rfl
  have okx : okgS ns (.set x ⟨[(x, 1)], 0 - (1 + s1), 1⟩) := okg_set hxy.x1 (sm1 hxy.x1 (.inl rfl) (by omega)) hns
  have oky : okgS ns (.set y ⟨[(y, 1)], 1 + s1, 1⟩) := okg_set hxy.y1 (sm1 hxy.y1 (.inl rfl) (by omega)) hns
  generalize hp1 : n + 1 = p1 at e1 e2 e3 e4 e5
  generalize hp2 : p1 + 1 = p2 at e2 e3 e4 e5
  generalize hp3 : p2 + 1 = p3 at e3 e4 e5
  generalize hp4 : p3 + 1 = p4 at e4 e5
  generalize hp5 : p4 + 1 = p5 at e5
  by_cases hpk : pick.fmod 3 = 1
  · refine ⟨.whl (false, [(x, 1)], 1) [(false, [(x, 1)], 1 - (1 + s1) - s3), (false, both x y, s2 - 2)] none [.cho [.set x ⟨[(x, 1)], 0 - (1 + s1), 1⟩] [.set x ⟨[(x, 1)], 0 - (1 + s1), 1⟩, .set y ⟨[(y, 1)], 1 + s1, 1⟩], .set y ⟨[(y, 1)], s4, 1⟩], .note [(false, both x y, s2 - 2 - s5)], (false, [(x, 1)], 1 - (1 + s1) - s3), (false, both x y, s2 - 2), (false, both x y, s2 - 2 - s5), p5, ?_, by omega, by omega, ⟨⟨_, _, _, rfl⟩, rfl, ?_, ?_, ?_, ?_, ?_, ?_, ?_, ?_, ?_, ?_⟩⟩
    · rw [call_go F103 rfl rfl]
      unfold pqO at *
      simp [F103, F103i0, startE, hx, hy, e1, h1, e2, h2, e3, h3, e4, h4, e5, h5, o1, o2, eq_nm, hpk, cut3]
      simp [F103, F103i0, e2, h2, e3, h3, e4, h4, e5, h5, o1, o2, hpk, cut3, lim5, hbt, sD, bD, smD, rD, rowD, tmsD, tmD, wd, lst5, feD]
    · refine okg_whl hns (rw1 hxy.x1 (by decide)) (fun r hr => ?_) (by simp) (fun p hp => (nomatch hp)) (okgB_cons (okg_cho (okgB_cons okx okgB_nil) (okgB_cons okx (okgB_cons oky okgB_nil))) (okgB_cons (okg_set hxy.y1 (sm1 hxy.y1 (.inl rfl) (by omega)) hns) okgB_nil))
      simp only [List.mem_cons, List.not_mem_nil, or_false] at hr
      rcases hr with rfl | rfl
      · exact rw1 hxy.x1 (by omega)
      · exact rw2 hxy (by omega)
    · exact rw1 hxy.x1 (by omega)
    · exact rw2 hxy (by omega)
    · exact rw2 hxy (by omega)
    all_goals simp [cntS, cntB, w1, wBr, wLp, wAn, wNt, depS, depB]
  · refine ⟨.whl (false, [(x, 1)], 1) [(false, [(x, 1)], 1 - (1 + s1) - s3), (false, both x y, s2 - 2)] (some (⟨[(x, 1)], 0, 1⟩, 1 + s1)) [.set x ⟨[(x, 1)], 0 - (1 + s1), 1⟩, .set y ⟨[(y, 1)], 1 + s1, 1⟩], .note [(false, both x y, s2 - 2 - s4)], (false, [(x, 1)], 1 - (1 + s1) - s3), (false, both x y, s2 - 2), (false, both x y, s2 - 2 - s4), p4, ?_, by omega, by omega, ⟨⟨_, _, _, rfl⟩, rfl, ?_, ?_, ?_, ?_, ?_, ?_, ?_, ?_, ?_, ?_⟩⟩
    · rw [call_go F103 rfl rfl]
      unfold pqO at *
      simp [F103, F103i0, startE, hx, hy, e1, h1, e2, h2, e3, h3, e4, h4, o1, o2, eq_nm, hpk, cut3]
      simp [F103, F103i0, e2, h2, e3, h3, e4, h4, e5, h5, o1, o2, hpk, cut3, lim5, hbt, sD, bD, smD, rD, rowD, tmsD, tmD, wd, lst5, feD]
    · refine okg_whl hns (rw1 hxy.x1 (by decide)) (fun r hr => ?_) (by simp) (fun p hp => ?_) (okgB_cons okx (okgB_cons oky okgB_nil))
      · simp only [List.mem_cons, List.not_mem_nil, or_false] at hr
        rcases hr with rfl | rfl
        · exact rw1 hxy.x1 (by omega)
        · exact rw2 hxy (by omega)
      · cases hp
        exact ⟨sm1 hxy.x1 (.inl rfl) (by decide), by dsimp only; omega, by dsimp only; omega, by simp [cntB, cntS, wLp]⟩
    · exact rw1 hxy.x1 (by omega)
    · exact rw2 hxy (by omega)
    · exact rw2 hxy (by omega)
    all_goals simp [cntS, cntB, w1, wBr, wLp, wAn, wNt, depS, depB]
/-- a loop and a note behind it -/
theorem TlOk.okb {x y : Nat} {lp nt : Stm} {k1 k2 r3 : Row} (h : TlOk ns x y lp nt k1 k2 r3) (hns : ns.length ≤ 3) : okgB ns [lp, nt] := okgB_cons h.ok (okgB_cons (by rw [h.ent]; exact okg_note hns fun r hr => by rw [List.mem_singleton.mp hr]; exact h.hr3) okgB_nil)
theorem PlDr_of {P : Pl} (hn : NmOk P.ns) (h1 : ∀ r ∈ P.rs, RwDr P.ns r) (h2 : P.rs.length ≤ 2) (h3 : okgB P.ns P.b) (h4 : cntB w1 P.b ≤ 24) (h5 : cntB wBr P.b ≤ 2) (h6 : cntB wLp P.b ≤ 2) (h7 : cntB wAn P.b ≤ 1) (h8 : cntB wNt P.b ≤ 2) (h9 : depB P.b ≤ 4) : PlOk P ∧ gB P.ns P.b ∧ ∀ r ∈ P.rs, RwG P.ns r :=
  ⟨⟨hn, h1, h2, h3.1, h4, h5, h6, h7, h8, h9⟩, h3.2, fun r hr => (h1 r hr).g (by have := hn.len; omega)⟩
/-- a plan that can be run -/
def PlG (P : Pl) : Prop := PlOk P ∧ gB P.ns P.b ∧ ∀ r ∈ P.rs, RwG P.ns r
theorem c_menu108 (d : Nat) {T : List Int} {f : Int} {n : Nat} (hn : n ≤ 100) (h : NmOk ns) (pick : Int) : ∃ P n', call PG (d + 30) 108 [.ref 0, .dat (.tup (ns.map nmD)), .dat (.int pick)] [pqO T n f] = some (.dat (pD P), [pqO T n' f]) ∧ P.ns = ns ∧ PlG P := by
  have hns := h.len
  have hn1 := h.pos
  obtain ⟨x, y, hxy⟩ := xy_of h
  have hx := hxy.x0
  have hy := hxy.y0
  obtain ⟨lp, nt, k1, k2, r3, n1, e1, l1, l2, ht⟩ := c_tail103 (d + 27) (T := T) (f := f) (n := n) (by omega) hns hxy pick
  obtain ⟨r, e2, a2, b2⟩ := c_tkm (d + 28) (T := T) (f := f) (n := n1) (by omega) (m := 3) (by decide)
  generalize h2 : r.fmod 3 = s2 at a2 b2
  generalize hp2 : n1 + 1 = p2 at e2
  obtain ⟨row, fe, bl, elp⟩ := ht.elp
  have ent := ht.ent
  have ok1 : RwDr ns (false, [(x, 1)], s2 - 1) := rw1 hxy.x1 (by omega)
  have d3 : okDiv 3 = true := by decide
  have hb := ht.okb hns
  have hw1 := ht.w1
  have hbr := ht.br
  have hlo := ht.lo
  have han := ht.an
  have hno := ht.no
  have hdp := ht.dp
  have g1 := Int.fmod_nonneg_of_pos (pick.fdiv 3) (b := 4) (by decide)
  have g2 := Int.fmod_lt_of_pos (pick.fdiv 3) (b := 4) (by decide)
  have hent : cntS w1 nt = 1 ∧ cntS wBr nt = 0 ∧ cntS wLp nt = 0 ∧ cntS wAn nt = 0 ∧ cntS wNt nt = 1 ∧ depS nt = 1 := by
    rw [ent]; simp [cntS, w1, wBr, wLp, wAn, wNt, depS]
  obtain ⟨n1', n2', n3', n4', n5', n6'⟩ := hent
  by_cases c0 : (pick.fdiv 3).fmod 4 = 0
  · refine ⟨⟨ns, [(false, [(x, 1)], s2 - 1), r3], [lp, nt]⟩, p2, ?_, rfl, ?_⟩
    · rw [call_go F108 rfl rfl]
      rw [ent] at e1
      simp only [sD] at e1
      unfold pqO at *
      simp [F108, startE, hx, hy, e1, e2, h2, d3, c0, pD, bD, ent, sD, rD, rowD, tmsD, tmD, wd, lst5]
    · refine PlDr_of h (fun r hr => ?_) (by simp) hb ?_ ?_ ?_ ?_ ?_ ?_
      · simp only [List.mem_cons, List.not_mem_nil, or_false] at hr
        rcases hr with rfl | rfl
        · exact ok1
        · exact ht.hr3
      all_goals simp only [cntB, depB]
      all_goals omega
  by_cases c1 : (pick.fdiv 3).fmod 4 = 1
  · obtain ⟨r4, e4, a4, b4⟩ := c_tkm (d + 28) (T := T) (f := f) (n := p2) (by omega) (m := 2) (by decide)
    generalize h4 : r4.fmod 2 = s4 at a4 b4
    generalize hp4 : p2 + 1 = p4 at e4
    have o1 := c_one102 (d + 28) y (w := 1) 0 (by decide)
    have o2 := c_one102 (d + 28) y (w := -1) 0 (by decide)
    refine ⟨⟨ns, [], [.any y, .ite (true, [(y, 1)], 0) [.set x ⟨[(y, 1)], 0, 1⟩] [.set x ⟨[(y, -1)], 0, 1⟩], .note [(false, [(x, 1)], 0 - s4)]]⟩, p4, ?_, rfl, ?_⟩
    · rw [call_go F108 rfl rfl]
      rw [ent] at e1
      simp only [sD] at e1
      unfold pqO at *
      simp [F108, startE, hx, hy, e1, e2, h2, d3, c1, e4, h4, o1, o2, pD, bD, sD, smD, rD, rowD, tmsD, tmD, wd, lst5, mor4]
    · refine PlDr_of h (fun r hr => (nomatch hr)) (by simp) ?_ ?_ ?_ ?_ ?_ ?_ ?_
      · refine okgB_cons (okg_any hxy.y1) (okgB_cons (okg_ite hns (rw1 hxy.y1 (by decide)) (okgB_cons (okg_set hxy.x1 (sm1 hxy.y1 (.inl rfl) (by decide)) hns) okgB_nil) (okgB_cons (okg_set hxy.x1 (sm1 hxy.y1 (.inr rfl) (by decide)) hns) okgB_nil)) (okgB_cons (okg_note hns fun r hr => ?_) okgB_nil))
        rw [List.mem_singleton.mp hr]
        exact rw1 hxy.x1 (by omega)
      all_goals simp [cntS, cntB, w1, wBr, wLp, wAn, wNt, depS, depB]
  by_cases c2 : (pick.fdiv 3).fmod 4 = 2
  · obtain ⟨rr, e4, hrr⟩ := c_rw39 (d + 26) (T := T) (f := f) (n := p2) (ns := ns) (by omega) (by omega)
    generalize hp4 : p2 + ns.length + 2 = p4 at e4
    have o1 := c_one102 (d + 28) y (w := 1) (-1) (by decide)
    have o2 := c_one102 (d + 28) x (w := 1) (-1) (by decide)
    have o3 := c_one102 (d + 28) y (w := 1) 0 (by decide)
    have ct1 : ∀ a b : D, cutL [a, b] none (some 1) = [a] := fun _ _ => rfl
    refine ⟨⟨ns, [(false, [(x, 1)], s2 - 1)], [.whl (false, [(x, 1)], 1) [k1, k2] none [.any y, .whl (true, [(y, 1)], 0) [k1] (some (⟨[(y, 1)], 0, 1⟩, 1)) [.set y ⟨[(y, 1)], -1, 1⟩], .set x ⟨[(x, 1)], -1, 1⟩], .note [rr]]⟩, p4, ?_, rfl, ?_⟩
    · rw [call_go F108 rfl rfl]
      rw [ent, elp] at e1
      simp only [sD] at e1
      unfold pqO at *
      simp [F108, startE, hx, hy, e1, e2, h2, d3, c2, e4, o1, o2, o3, ct1, pD, bD, sD, smD, feD, rD, rowD, tmsD, tmD, wd, lst5, mor4]
    · refine PlDr_of h (fun r hr => by rw [List.mem_singleton.mp hr]; exact ok1) (by simp) ?_ ?_ ?_ ?_ ?_ ?_ ?_
      · refine okgB_cons (okg_whl hns (rw1 hxy.x1 (by decide)) (fun r hr => ?_) (by simp) (fun p hp => (nomatch hp)) (okgB_cons (okg_any hxy.y1) (okgB_cons (okg_whl hns (rw1 hxy.y1 (by decide)) (fun r hr => ?_) (by simp) (fun p hp => ?_) (okgB_cons (okg_set hxy.y1 (sm1 hxy.y1 (.inl rfl) (by decide)) hns) okgB_nil)) (okgB_cons (okg_set hxy.x1 (sm1 hxy.x1 (.inl rfl) (by decide)) hns) okgB_nil)))) (okgB_cons (okg_note hns fun r hr => ?_) okgB_nil)
        · simp only [List.mem_cons, List.not_mem_nil, or_false] at hr
          rcases hr with rfl | rfl
          · exact ht.hk1
          · exact ht.hk2
        · rw [List.mem_singleton.mp hr]; exact ht.hk1
        · cases hp
          exact ⟨sm1 hxy.y1 (.inl rfl) (by decide), by show (0 : Int) < 1; decide, by show (1 : Int) ≤ 1000; decide, by simp [cntB, cntS, wLp]⟩
        · rw [List.mem_singleton.mp hr]; exact hrr
      all_goals simp [cntS, cntB, w1, wBr, wLp, wAn, wNt, depS, depB]
  · have hB := hb_of (d := d + 27) (T := T) (f := f) (ns := ns) (j := 1) (by
      have := hs_all (T := T) (f := f) hns hn1 1 (d + 14)
      rw [show d + 14 + 3 * 1 + 11 = d + 27 + 1 by omega] at this
      exact this)
    obtain ⟨b, q, e4, okb, cb, db, tb⟩ := hB ⟨p2, 4, 1, 0, 1, 1⟩ (by dsimp only; omega)
    obtain ⟨m1, m2, m3, m4, m5, m6⟩ := cb
    dsimp only at m1 m2 m3 m4 m5 m6
    refine ⟨⟨ns, [(false, [(x, 1)], s2 - 1), r3], b ++ [lp, nt]⟩, q.at_, ?_, rfl, ?_⟩
    · rw [call_go F108 rfl rfl]
      rw [ent] at e1
      simp only [sD] at e1
      have hlim : b.length + 2 ≤ LIM := by
        have := cntB_len (b := b)
        unfold LIM; omega
      have hbl : (bD b).length = b.length := by rw [bD_map, List.length_map]
      unfold pqO lfL at *
      simp at e4
      simp [F108, startE, hx, hy, e1, e2, h2, d3, c0, c1, c2, e4, hbl, hlim, pD, bD_app, bD, ent, sD, rD, rowD, tmsD, tmD, wd, lst5]
    · refine PlDr_of h (fun r hr => ?_) (by simp) (okgB_app okb hb) ?_ ?_ ?_ ?_ ?_ ?_
      · simp only [List.mem_cons, List.not_mem_nil, or_false] at hr
        rcases hr with rfl | rfl
        · exact ok1
        · exact ht.hr3
      all_goals simp only [cntB_app, depB_app, cntB, depB]
      all_goals omega
end
end NK
set_option Elab.async false
set_option linter.all false
set_option autoImplicit false
set_option maxRecDepth 100000
namespace NK
open PySem L2
/-! RGenL: the plan, the starts, turns and givens of the later laws -/
theorem ne_nil1 : cmpV .ne (.dat (.scr [])) (.dat (.lst [])) [] = some false := by
  rw [c_ne_of (a := .scr []) (b := .lst []) rfl rfl (by simp [eqOk, nod, nods, dep, deps])]
  simp [eqD, eqSs]
theorem ne_cons1 (a : Int) (r : List Int) : cmpV .ne (.dat (.scr (a :: r))) (.dat (.lst [])) [] = some true := by
  rw [c_ne_of (a := .scr (a :: r)) (b := .lst []) rfl rfl (by simp [eqOk, nod, nods, dep, deps])]
  simp [eqD, eqSs]
theorem cutL_map1 {α β : Type} (g : α → β) (xs : List α) (lo hi : Option Int) : cutL (xs.map g) lo hi = (cutL xs lo hi).map g := by
  unfold cutL
  rw [List.length_map, List.map_take, List.map_drop]
theorem cutL_mem1 {α : Type} {xs : List α} {lo hi : Option Int} {x : α} (h : x ∈ cutL xs lo hi) : x ∈ xs := List.mem_of_mem_drop (List.mem_of_mem_take h)
theorem cutL_len1 {α : Type} {xs : List α} {lo hi : Option Int} : (cutL xs lo hi).length ≤ xs.length := by
  unfold cutL
  rw [List.length_take, List.length_drop]
  omega
theorem c_plan109 (d : Nat) (sc : List Int) : ∃ P, call PG (d + 31) 109 [.dat (.scr sc)] [] = some (.dat (pD P), []) ∧ PlG P := by
  obtain ⟨f, hf⟩ : ∃ f : Int, f = (sc.head?).getD 0 := ⟨_, rfl⟩
  obtain ⟨ns, e1, hn⟩ := c_nm35 (d + 29) f
  let T : List Int := cutL sc (some 1) (some 63)
  have hT : cutL (sc.map D.int) (some 1) (some 63) = T.map .int := cutL_map1 _ _ _ _
  have d3 : okDiv 3 = true := by decide
  have d9 : okDiv 9 = true := by decide
  have hi0 : evS (call PG (d + 30)) F109i0 [some (.dat (.scr sc)), some (.dat (.int 0)), none, none, none] [] = some (.nx [some (.dat (.scr sc)), some (.dat (.int f)), none, none, none] []) := by
    cases sc with
    | nil =>
      simp only [List.head?_nil, Option.getD_none] at hf
      subst hf
      simp [F109i0, ne_nil1]
    | cons a r' =>
      simp only [List.head?_cons, Option.getD_some] at hf
      subst hf
      simp [F109i0, ne_cons1]
  by_cases hk : 0 < (f.fdiv 3).fmod 3
  · obtain ⟨P, n', e2, _, hP⟩ := c_menu108 d (T := T) (f := f) (n := 0) (by omega) hn (f.fdiv 9)
    refine ⟨P, ?_, hP⟩
    clear_value T
    rw [call_go (d := d + 30) F109 rfl rfl]
    unfold pqO at e2
    simp at e2
    simp [F109, startE, hi0, e1, hT, d3, d9, hk, e2]
  · have hns := hn.len
    obtain ⟨r, e2, r1, r2⟩ := c_tkm (d + 29) (T := T) (f := f) (n := 0) (by omega) (m := 3) (by decide)
    obtain ⟨m, hm⟩ : ∃ m : Nat, r.fmod 3 = (m : Int) := ⟨(r.fmod 3).toNat, by omega⟩
    have hmb : (ns.length + 2) * m ≤ 5 * 2 := Nat.mul_le_mul (by omega) (by omega)
    obtain ⟨rs, e3, hl3, hrs⟩ := c_rws48 (d + 26) (T := T) (f := f) (n := 0 + 1) (m := m) (ns := ns) (by omega) (by omega) (by omega)
    generalize ha3 : 0 + 1 + (ns.length + 2) * m = a3 at e3
    have hB := hb_of (d := d + 28) (T := T) (f := f) (ns := ns) (j := 3) (by
      have := hs_all (T := T) (f := f) hns hn.pos 3 (d + 9)
      rw [show d + 9 + 3 * 3 + 11 = d + 28 + 1 by omega] at this
      exact this)
    obtain ⟨b, q, e4, okb, cb, db, tb⟩ := hB ⟨a3, 24, 2, 2, 1, 2⟩ (by dsimp only; omega)
    obtain ⟨m1, m2, m3, m4, m5, m6⟩ := cb
    dsimp only at m1 m2 m3 m4 m5 m6
    refine ⟨⟨ns, rs, b⟩, ?_, PlDr_of hn hrs (by dsimp only; omega) okb (by dsimp only; omega) (by dsimp only; omega) (by dsimp only; omega) (by dsimp only; omega) (by dsimp only; omega) (by dsimp only; omega)⟩
    clear_value T
    rw [call_go (d := d + 30) F109 rfl rfl]
    unfold pqO lfL at *
    simp at e2 e3 e4
    simp [F109, startE, hi0, e1, hT, d3, d9, hk, e2, hm, e3, e4, pD]
/-! fractions -/
theorem wh_made110 (C : Calls) (x0 x1 : Option Val) {st : Sto} : ∀ (n : Nat) (a b : Int), b.natAbs ≤ n → ∃ g : Int, g.natAbs = Int.gcd a b ∧ WH C (.cmp .ne (.var 3) (.int 0)) F110b0 [x0, x1, some (.dat (.int a)), some (.dat (.int b))] st = some (.nx [x0, x1, some (.dat (.int g)), some (.dat (.int 0))] st) := by
  intro n
  induction n with
  | zero =>
    intro a b hn
    have : b = 0 := by omega
    subst this
    exact ⟨a, by simp, whV_f _ _ (st' := st) (by simp)⟩
  | succ n ih =>
    intro a b hn
    by_cases h : b = 0
    · subst h
      exact ⟨a, by simp, whV_f _ _ (st' := st) (by simp)⟩
    · obtain ⟨g, h1, h2⟩ := ih b (a.fmod b) (by have := fmod_lt a h; omega)
      refine ⟨g, by rw [h1, gcd_fmod], ?_⟩
      rw [WH, whV_t _ _ (st' := st) (e := [x0, x1, some (.dat (.int b)), some (.dat (.int (a.fmod b)))]) (s := st) (by simp [h]) (by simp [F110b0, h])]
      exact h2
theorem c_made110 (d : Nat) {t b : Int} (h0 : 0 < b) (h3 : b ≤ 3) : call PG (d + 1) 110 [.dat (.int t), .dat (.int b)] [] = some (.dat (frD (redF t b)), []) ∧ Fr (redF t b).1 (redF t b).2 ∧ (redF t b).1.natAbs ≤ t.natAbs ∧ (redF t b).2 ≤ 3 := by
  obtain ⟨g, hg, hw⟩ := wh_made110 (call PG d) (some (.dat (.int t))) (some (.dat (.int b))) (st := []) b.natAbs t b (Nat.le_refl _)
  obtain ⟨p, q, g1, g2, g3, g4, g5, g6, g7, g8, g9⟩ := share_spec (t := t) (b := b) (by omega)
  have hsh : share t b = (Int.gcd t b : Int) := by unfold share; rw [if_neg (by omega)]
  have hpos : 0 < Int.gcd t b := Nat.pos_of_ne_zero fun h => by have := (Int.gcd_eq_zero_iff.mp h).2; omega
  have hle : Int.gcd t b ≤ 3 := by rw [hsh] at g9; omega
  have hk : okDiv (Int.gcd t b : Int) = true := okDiv_bd (n := 5) (by omega) (Bd.of_le (b := 3) (by omega) (by decide))
  refine ⟨?_, ?_, ?_, ?_⟩
  · have hi : ∃ r : Int, evS (call PG d) F110i0 [some (.dat (.int t)), some (.dat (.int b)), some (.dat (.int g)), some (.dat (.int 0))] [] = some (.nx [some (.dat (.int t)), some (.dat (.int b)), some (.dat (.int (Int.gcd t b : Int))), some (.dat (.int 0))] []) := by
      refine ⟨0, ?_⟩
      have nb : ¬ b < 0 := by omega
      by_cases hneg : g < 0
      · have e : (Int.gcd t b : Int) = -g := by omega
        simp [F110i0, nb, h0, hneg, e]
      · have e : (Int.gcd t b : Int) = g := by omega
        simp [F110i0, nb, h0, hneg, e]
    obtain ⟨_, hi⟩ := hi
    rw [call_go F110 rfl rfl]
    unfold redF
    rw [hsh]
    simp [F110, startE, hw, hi, hk, frD]
  · exact (redF_spec (t := t) (b := b) (by omega)).2
  · unfold redF; dsimp only; rw [g3]; exact g7
  · unfold redF; dsimp only; rw [g4]; omega
/-- starts -/
structure StOk (fs : List (Int × Int)) : Prop where
  h : ∀ f ∈ fs, Fr f.1 f.2 ∧ f.1.natAbs ≤ 2 ^ 101 ∧ f.2 ≤ 3
theorem StOk.pt {fs : List (Int × Int)} (h : StOk fs) : PtN 0 fs := by
  refine ⟨6, by decide, by decide, fun f hf => ?_⟩
  obtain ⟨h1, h2, h3⟩ := h.h f hf
  have h0 := h1.pos
  have : f.2 = 1 ∨ f.2 = 2 ∨ f.2 = 3 := by omega
  have key : f.2 ∣ 6 ∧ (6 / f.2).natAbs ≤ 6 := by
    rcases this with e | e | e <;> rw [e] <;> decide
  refine ⟨h1, key.1, ?_⟩
  unfold zf
  rw [Int.natAbs_mul]
  exact Nat.le_trans (Nat.mul_le_mul h2 key.2) (by decide)
theorem c_cellL (d : Nat) (cs : List Int) (k : Nat) : ∃ c, call PG (d + 1) 20 [.dat (.lst (cs.map .int)), .dat (.int k)] [] = some (.dat (.int c), []) := by
  by_cases h : k < cs.length
  · refine ⟨cs[k], ?_⟩
    rw [call_go F20 rfl rfl]
    have e : at? (cs.map D.int) (k : Int) = some (.int cs[k]) := by rw [at_nat, List.getElem?_map, List.getElem?_eq_getElem h]; rfl
    have h' : (k : Int) < cs.length := by omega
    simp [F20, startE, h, h', e]
  · refine ⟨0, ?_⟩
    rw [call_go F20 rfl rfl]
    have h' : ¬ (k : Int) < cs.length := by omega
    simp [F20, startE, h, h']
theorem for_start (d : Nat) (cs : List Int) (x0 x1 : Option Val) {ns : List Nat} (h0 : x0 = some (.dat (.tup (ns.map nmD)))) (h1 : x1 = some (.dat (.lst (cs.map .int)))) (hn : ns.Nodup) (h10 : ns.length ≤ 10) :
    ∃ fs y3 y4 y5 y6, FOR (call PG (d + 1)) [3] false F111b0 (rngL 0 ns.length) [x0, x1, some (.ref 0), none, none, none, none] [.dK [] []] = some (.nx [x0, x1, some (.ref 0), y3, y4, y5, y6] [.dK (ptK ns) (ptD fs)]) ∧ fs.length = ns.length ∧ StOk fs := by
  have step := forV_inv (bind := fun d e => bindT [3] false d e) (body := fun e s => evSs (call PG (d + 1)) F111b0 e s)
    (fun k env st => ∃ fs x3 x4 x5 x6, env = [x0, x1, some (.ref 0), x3, x4, x5, x6] ∧ st = [.dK (ptK (ns.take k)) (ptD fs)] ∧ fs.length = k ∧ k ≤ ns.length ∧ StOk fs)
    (ds := rngL 0 ns.length) (k := 0) (env := [x0, x1, some (.ref 0), none, none, none, none]) (st := [.dK [] []]) ⟨[], none, none, none, none, rfl, by simp [ptK, ptD], rfl, by omega, ⟨fun _ h => (nomatch h)⟩⟩
  refine (step ?_).elim fun e h => h.elim fun s h => ?_
  · rintro i dd env st hi ⟨fs, x3, x4, x5, x6, rfl, rfl, hf, hk, hfs⟩
    obtain ⟨rfl, hi2⟩ := rngL_get hi
    rw [Int.zero_add]
    rw [Nat.zero_add] at hf hk ⊢
    have hin : i < ns.length := by omega
    obtain ⟨c, ec⟩ := c_cellL d cs i
    have q1 := Int.fmod_nonneg_of_pos (c.fdiv 4) (b := 13) (by decide)
    have q2 := Int.fmod_lt_of_pos (c.fdiv 4) (b := 13) (by decide)
    have q3 := Int.fmod_nonneg_of_pos (c.fdiv 4) (b := 200) (by decide)
    have q4 := Int.fmod_lt_of_pos (c.fdiv 4) (b := 200) (by decide)
    have q5 := Int.fmod_nonneg_of_pos (c.fdiv 4) (b := 7) (by decide)
    have q6 := Int.fmod_lt_of_pos (c.fdiv 4) (b := 7) (by decide)
    have q7 := Int.fmod_nonneg_of_pos (c.fdiv 4) (b := 1000000000000000000000000000000) (by decide)
    have q8 := Int.fmod_lt_of_pos (c.fdiv 4) (b := 1000000000000000000000000000000) (by decide)
    have q9 := Int.fmod_nonneg_of_pos c (b := 4) (by decide)
    have q10 := Int.fmod_lt_of_pos c (b := 4) (by decide)
    have q11 := Int.fmod_nonneg_of_pos (c.fdiv 11) (b := 9) (by decide)
    have q12 := Int.fmod_lt_of_pos (c.fdiv 11) (b := 9) (by decide)
    have pick : ∃ t : Int, at? [D.int ((c.fdiv 4).fmod 13 - 3), .int ((c.fdiv 4).fmod 200 - 50), .int ((c.fdiv 4).fmod 7), .int ((c.fdiv 4).fmod 1000000000000000000000000000000)] (c.fmod 4) = some (.int t) ∧ t.natAbs ≤ 2 ^ 101 := by
      have : c.fmod 4 = 0 ∨ c.fmod 4 = 1 ∨ c.fmod 4 = 2 ∨ c.fmod 4 = 3 := by omega
      rcases this with e | e | e | e <;> rw [e]
      · exact ⟨_, rfl, by omega⟩
      · exact ⟨_, rfl, by omega⟩
      · exact ⟨_, rfl, by omega⟩
      · exact ⟨_, rfl, by omega⟩
    obtain ⟨t, ht, htb⟩ := pick
    obtain ⟨bt, hbt, hb0, hb3⟩ : ∃ bt : Int, 1 + (if (c.fdiv 11).fmod 9 - 6 > 0 then (c.fdiv 11).fmod 9 - 6 else 0) = bt ∧ 0 < bt ∧ bt ≤ 3 := by
      split <;> exact ⟨_, rfl, by omega, by omega⟩
    obtain ⟨e5, f1, f2, f3⟩ := c_made110 d (t := t) hb0 hb3
    generalize redF t bt = v at e5 f1 f2 f3
    have e1 : at? (ns.map nmD) (i : Int) = some (nmD ns[i]) := by rw [at_nat, List.getElem?_map, List.getElem?_eq_getElem hin]; rfl
    have hnot : (.inr [ns[i]] : K1) ∉ ptK (ns.take i) := fun hm => by
      have := ptK_mem.mp hm
      obtain ⟨j, hj, e⟩ := List.mem_iff_getElem.mp this
      rw [List.getElem_take] at e
      rw [List.length_take] at hj
      have := (List.getElem_inj hn).mp e
      omega
    have hput : dputK (ptK (ns.take i)) (ptD fs) (.inr [ns[i]]) (frD v) = (ptK (ns.take (i + 1)), ptD (fs ++ [v])) := by
      unfold dputK
      rw [if_neg hnot, List.take_succ_eq_append_getElem hin]
      unfold ptK ptD
      rw [List.map_append, List.map_append]
      rfl
    refine ⟨_, [x0, x1, some (.ref 0), some (.dat (.int i)), some (.dat (.int c)), some (.dat (.int (c.fdiv 4))), some (.dat (.int t))], [.dK (ptK (ns.take (i + 1))) (ptD (fs ++ [v]))], rfl, ?_, fs ++ [v], _, _, _, _, rfl, rfl, by simp [hf], by omega, ⟨fun f hf' => ?_⟩⟩
    · subst h0 h1
      have hlim : (ptK (ns.take i)).length < LIM := by
        unfold ptK LIM
        rw [List.length_map, List.length_take]
        omega
      have hst := storeV_dK (st := [.dK (ptK (ns.take i)) (ptD fs)]) (l := 0) (k := nmD ns[i]) (d := frD v) rfl
      have k4 : okDiv 4 = true := by decide
      have k11 : okDiv 11 = true := by decide
      have kp : okPow 10 30 = true := okPow_of
      have hmx : ∀ st : Sto, biV .max2 [.dat (.int 0), .dat (.int ((c.fdiv 11).fmod 9 - 6))] st = some (.int (if (c.fdiv 11).fmod 9 - 6 > 0 then (c.fdiv 11).fmod 9 - 6 else 0)) := fun st => rfl
      generalize (if (c.fdiv 11).fmod 9 - 6 > 0 then (c.fdiv 11).fmod 9 - 6 else 0) = mx at hmx hbt
      simp only [nmD] at hst e1 hput
      simp [-bi_max2, F111b0, ec, k4, k11, kp, ht, hmx, hbt, e5, e1, hst, toK, hlim, hput]
    · rcases List.mem_append.mp hf' with h | h
      · exact hfs.h f h
      · rw [List.mem_singleton] at h
        subst h
        exact ⟨f1, Nat.le_trans f2 htb, f3⟩
  · obtain ⟨g1, fs, x3, x4, x5, x6, rfl, rfl, g2, g3, g4⟩ := h
    have el : 0 + (rngL 0 (ns.length : Int)).length = ns.length := by rw [rngL_len]; omega
    rw [el] at g1 g2 g3
    refine ⟨fs, x3, x4, x5, x6, ?_, g2, g4⟩
    rw [List.take_length] at g1
    exact g1
theorem c_start111 (d : Nat) (cs : List Int) {ns : List Nat} (hn : ns.Nodup) (h10 : ns.length ≤ 10) : ∃ fs, call PG (d + 2) 111 [.dat (.tup (ns.map nmD)), .dat (.lst (cs.map .int))] [] = some (.own (.dK (ptK ns) (ptD fs)), []) ∧ fs.length = ns.length ∧ StOk fs := by
  obtain ⟨fs, y3, y4, y5, y6, hf, h1, h2⟩ := for_start d cs (some (.dat (.tup (ns.map nmD)))) (some (.dat (.lst (cs.map .int)))) rfl rfl hn h10
  refine ⟨fs, ?_, h1, h2⟩
  have hr : rngOk 0 (ns.length : Int) = true := rngOk_small (by decide) (by omega) (by omega) (by decide)
  rw [call_go F111 rfl rfl]
  simp [F111, startE, hr, hf]
theorem c_turns112 (d : Nat) (cs : List Int) : ∃ tu : List Bool, call PG (d + 1) 112 [.dat (.lst (cs.map .int))] [] = some (.dat (.lst (tu.map tuD)), []) ∧ tu.length = cs.length := by
  have hc := COMP_tm (C := call PG d) (elt := .bin .mod (.bin .fdiv (.var 1) (.int 3)) (.int 2)) (tg := [1]) (own := [1]) (tup := false) (env := [some (.dat (.lst (cs.map .int))), none]) (st := []) D.int (fun c => tuD (decide ((c.fdiv 3).fmod 2 = 1))) (L := cs) fun c hc => by
    refine ⟨_, rfl, ?_⟩
    have d3 : okDiv 3 = true := by decide
    have q1 := Int.fmod_nonneg_of_pos (c.fdiv 3) (b := 2) (by decide)
    have q2 := Int.fmod_lt_of_pos (c.fdiv 3) (b := 2) (by decide)
    have : (c.fdiv 3).fmod 2 = 0 ∨ (c.fdiv 3).fmod 2 = 1 := by omega
    rcases this with e | e <;> simp [wipeE, d3, e, tuD, bI]
  refine ⟨cs.map fun c => decide ((c.fdiv 3).fmod 2 = 1), ?_, by simp⟩
  rw [call_go F112 rfl rfl]
  simp [F112, startE, hc, fzO]
theorem c_givens113 (d : Nat) (cs : List Int) : ∃ gi : List (Int × Int), call PG (d + 2) 113 [.dat (.lst (cs.map .int))] [] = some (.dat (.lst (gi.map frD)), []) ∧ gi.length = cs.length ∧ ∀ f ∈ gi, Fr f.1 f.2 ∧ f.1.natAbs ≤ 2 ^ 60 ∧ f.2 ≤ 3 := by
  have key : ∀ c : Int, call PG (d + 1) 110 [.dat (.int ((c.fdiv 2).fmod 41 - 20)), .dat (.int (1 + (c.fdiv 100).fmod 3))] [] = some (.dat (frD (redF ((c.fdiv 2).fmod 41 - 20) (1 + (c.fdiv 100).fmod 3))), []) ∧ Fr (redF ((c.fdiv 2).fmod 41 - 20) (1 + (c.fdiv 100).fmod 3)).1 (redF ((c.fdiv 2).fmod 41 - 20) (1 + (c.fdiv 100).fmod 3)).2 ∧ (redF ((c.fdiv 2).fmod 41 - 20) (1 + (c.fdiv 100).fmod 3)).1.natAbs ≤ 2 ^ 60 ∧ (redF ((c.fdiv 2).fmod 41 - 20) (1 + (c.fdiv 100).fmod 3)).2 ≤ 3 := fun c => by
    have q1 := Int.fmod_nonneg_of_pos (c.fdiv 2) (b := 41) (by decide)
    have q2 := Int.fmod_lt_of_pos (c.fdiv 2) (b := 41) (by decide)
    have q3 := Int.fmod_nonneg_of_pos (c.fdiv 100) (b := 3) (by decide)
    have q4 := Int.fmod_lt_of_pos (c.fdiv 100) (b := 3) (by decide)
    obtain ⟨a, b, e, f⟩ := c_made110 d (t := (c.fdiv 2).fmod 41 - 20) (b := 1 + (c.fdiv 100).fmod 3) (by omega) (by omega)
    exact ⟨a, b, Nat.le_trans e (by omega), f⟩
  have hc := COMP_tm (C := call PG (d + 1)) (elt := .call 110 [false, false] [(.bin .sub (.bin .mod (.bin .fdiv (.var 1) (.int 2)) (.int 41)) (.int 20)), (.bin .add (.int 1) (.bin .mod (.bin .fdiv (.var 1) (.int 100)) (.int 3)))]) (tg := [1]) (own := [1]) (tup := false) (env := [some (.dat (.lst (cs.map .int))), none]) (st := []) D.int (fun c => frD (redF ((c.fdiv 2).fmod 41 - 20) (1 + (c.fdiv 100).fmod 3))) (L := cs) fun c hc => by
    refine ⟨_, rfl, ?_⟩
    have d2 : okDiv 2 = true := by decide
    have d100 : okDiv 100 = true := by decide
    simp [wipeE, d2, d100, (key c).1]
  refine ⟨cs.map fun c => redF ((c.fdiv 2).fmod 41 - 20) (1 + (c.fdiv 100).fmod 3), ?_, by simp, fun f hf => ?_⟩
  · have e2 : (cs.map fun c => redF ((c.fdiv 2).fmod 41 - 20) (1 + (c.fdiv 100).fmod 3)).map frD = cs.map fun c => frD (redF ((c.fdiv 2).fmod 41 - 20) (1 + (c.fdiv 100).fmod 3)) := by rw [List.map_map]; rfl
    rw [e2, call_go F113 rfl rfl]
    simp [F113, startE, hc, fzO]
  · obtain ⟨c, _, rfl⟩ := List.mem_map.mp hf
    exact (key c).2
end NK
set_option Elab.async false
set_option linter.all false
set_option autoImplicit false
set_option maxRecDepth 100000
namespace NK
open PySem L2
/-! K33 -/
theorem rep_map {α : Type} {g : α → D} {n : Nat} {xs : List α} : (List.replicate n (xs.map g)).flatten = ((List.replicate n xs).flatten).map g := by
  rw [List.map_flatten, List.map_replicate]
theorem rep_len {α : Type} {n : Nat} {xs : List α} : ((List.replicate n xs).flatten).length = n * xs.length := by
  simp [List.length_flatten]
def repL (n : Nat) (xs : List D) : List D := (List.replicate n xs).flatten
theorem o_rep1 {C : Calls} {env : Env} {st : Sto} {a b : E} : evO C (.rep a b) env st = (evE C a env st).bind fun r => (evE C b env r.2).bind fun q => (asX q.2 r.1).bind fun xs => (intOf q.1).bind fun k =>
      if xs.length * k.toNat ≤ LIM ∧ -(2 ^ 63) ≤ k ∧ k < 2 ^ 63 then some (.lst (repL k.toNat xs), q.2) else none := rfl
theorem want_ne {z : W} (h : z ≠ wWanting) {st : Sto} : cmpV .eq (.dat (.str z)) (.dat (.str wWanting)) st = some false := by
  rw [c_eqS]
  congr 1
  simpa using h
/-- one of the five -/
theorem body33 {P : Pl} (hP : PlG P) (cs : List Int) (h8 : 8 ≤ cs.length) (h31 : cs.length ≤ 31) (k : Nat) (hk : k < 5) (x0 x4 x5 x6 x7 : Option Val) : ∃ y4 y5 y6 y7, evSs (call PG 59) F129b0 [x0, some (.dat (pD P)), some (.dat (.lst (cs.map .int))), some (.dat (.int k)), x4, x5, x6, x7] [] = some (.nx [x0, some (.dat (pD P)), some (.dat (.lst (cs.map .int))), some (.dat (.int k)), y4, y5, y6, y7] []) := by
  obtain ⟨ns, rs, b⟩ := P
  obtain ⟨hok, hgB, hgR⟩ := hP
  dsimp only at hgB hgR
  have hm := hok.must
  dsimp only at hm
  have hnm : NmOk ns := hok.nm
  have hnd : ns.Nodup := hnm.asc.imp (fun h => by omega)
  have h10 : ns.length ≤ 10 := by have := hnm.len; omega
  obtain ⟨fs, e1, hl, hst⟩ := c_start111 57 (cutL cs (some (k : Int)) (some ((k : Int) + 3))) hnd h10
  obtain ⟨tu, e2, htl⟩ := c_turns112 58 (cutL cs (some (k : Int)) none ++ cutL cs none (some (k : Int)))
  obtain ⟨gi, e3, hgl, hgi⟩ := c_givens113 57 (cutL cs (some (2 * (k : Int))) (some (2 * (k : Int) + 6)))
  have hlt : tu.length = cs.length := by
    rw [htl, cut_drop, cut_take, List.length_append, List.length_drop, List.length_take]
    omega
  have hgl2 : gi.length ≤ 31 := by
    rw [hgl]
    exact Nat.le_trans cutL_len1 h31
  obtain ⟨c, hc⟩ : ∃ c, at? (cs.map D.int) ((k : Int) + 3) = some (.int c) := by
    have h : k + 3 < cs.length := by omega
    refine ⟨cs[k + 3], ?_⟩
    rw [show (k : Int) + 3 = ((k + 3 : Nat) : Int) by omega, at_nat, List.getElem?_map, List.getElem?_eq_getElem h]
    rfl
  have hin : InOk ns fs gi := ⟨hl, hst.pt, hgi⟩
  have e4 := c_good 36 (tu := tu) (c := c) hnd h10 hm hgB hgR hin
  let gi2 : List (Int × Int) := (List.replicate 60 gi).flatten ++ (List.replicate 300 [((1 : Int), (1 : Int))]).flatten
  let tu2 : List Bool := (List.replicate 60 tu).flatten
  have hgi2 : ∀ f ∈ gi2, Fr f.1 f.2 ∧ f.1.natAbs ≤ 2 ^ 60 ∧ f.2 ≤ 3 := fun f hf => by
    rcases List.mem_append.mp hf with h | h
    · obtain ⟨l, hl, hfl⟩ := List.mem_flatten.mp h
      rw [(List.mem_replicate.mp hl).2] at hfl
      exact hgi f hfl
    · obtain ⟨l, hl, hfl⟩ := List.mem_flatten.mp h
      rw [(List.mem_replicate.mp hl).2, List.mem_singleton] at hfl
      subst hfl
      exact ⟨⟨by decide, by decide⟩, by decide, by decide⟩
  have hin2 : InOk ns fs gi2 := ⟨hl, hst.pt, hgi2⟩
  have e5 := c_run 37 (tu := tu2) hnd h10 hm hgB hgR hin2
  have lt2 : tu2.length = 60 * tu.length := rep_len
  have lg2 : gi2.length = 60 * gi.length + 300 := by
    show ((List.replicate 60 gi).flatten ++ (List.replicate 300 [((1 : Int), (1 : Int))]).flatten).length = _
    rw [List.length_append, rep_len, rep_len]
    rfl
  have hne := run_enough (ns := ns) (rs := rs) (b := b) (fs := fs) (tu := tu2) (gi := gi2) (by omega) (by omega)
  obtain ⟨z, hz⟩ := run_over (ns := ns) (rs := rs) (b := b) (fs := fs) (tu := tu2) (gi := gi2)
  have hzw : z.1 ≠ wWanting := fun h => hne z.2 (by rw [hz, ← h])
  have hcmp := want_ne hzw (st := [])
  generalize runR ns rs b fs tu2 gi2 = R at *
  have t1 : ovD ns R = .tup [.str z.1, .lst (R.pa.map (paD ns)), plcD z.2, .dK (ptK ns) (ptD R.fs)] := by simp only [ovD, hz]
  rw [t1] at e5
  have m1 : (List.replicate 60 (tu.map tuD)).flatten = tu2.map tuD := rep_map
  have one : (List.replicate 300 [D.tup [.int 1, .int 1]]).flatten = ((List.replicate 300 [((1 : Int), (1 : Int))]).flatten).map frD := by
    rw [← rep_map]; rfl
  have m2 : (List.replicate 60 (gi.map frD)).flatten ++ (List.replicate 300 [D.tup [.int 1, .int 1]]).flatten = gi2.map frD := by
    rw [one, rep_map, ← List.map_append]
  have k2 : okMul 2 (k : Int) = true := okMul_bd (m := 5) (n := 5) bd_lit (Bd.of_le (b := 5) (by omega) (by decide))
  have lim1 : (cutL cs (some (k : Int)) none).length + (cutL cs none (some (k : Int))).length ≤ LIM := by
    have a := cutL_len1 (xs := cs) (lo := some (k : Int)) (hi := none)
    have b := cutL_len1 (xs := cs) (lo := none) (hi := some (k : Int))
    unfold LIM; omega
  have lim2 : gi.length * 60 ≤ LIM := by unfold LIM; omega
  have lim3 : tu.length * 60 ≤ LIM := by unfold LIM; omega
  have lim4 : 300 ≤ LIM := by unfold LIM; omega
  have lim5 : ((List.replicate 60 (gi.map frD)).flatten).length + ((List.replicate 300 [D.tup [.int 1, .int 1]]).flatten).length ≤ LIM := by
    rw [rep_len, rep_len, List.length_map]
    unfold LIM; simp; omega
  have epd : pD ⟨ns, rs, b⟩ = .tup [.tup (ns.map nmD), .tup (rs.map rD), .tup (bD b)] := rfl
  rw [epd] at e4 e5 ⊢
  clear_value gi2 tu2
  refine ⟨some (.dat (.dK (ptK ns) (ptD fs))), some (.dat (.lst (tu.map tuD))), some (.dat (.lst (gi.map frD))), some (.dat (.lst (gi2.map frD))), ?_⟩
  have h60 : ((60 : Int)).toNat = 60 := rfl
  have h300 : ((300 : Int)).toNat = 300 := rfl
  have hq1 : (List.replicate 60 (gi.map frD)).flatten = repL 60 (gi.map frD) := rfl
  have hq2 : (List.replicate 300 [D.tup [.int 1, .int 1]]).flatten = repL 300 [D.tup [.int 1, .int 1]] := rfl
  have hq3 : (List.replicate 60 (tu.map tuD)).flatten = repL 60 (tu.map tuD) := rfl
  rw [hq1, hq2] at lim5 m2
  rw [hq3] at m1
  clear hq1 hq2 hq3 one
  simp [-o_rep, o_rep1, F129b0, cutL_map1, ← List.map_append, e1, fzO, lim1, e2, k2, e3, hc, e4, lim2, lim3, lim4, lim5, m1, m2, e5, hcmp]
theorem law_main : ∀ ns : List Int, ns.length ≤ 63 → (∀ z ∈ ns, PySem.Builtin.Int.intBits z ≤ 1048576) → call PG 60 129 [.dat (.scr ns)] [] = some (.dat (.bl true), []) := by
  intro sc hl hb
  obtain ⟨P, e1, hP⟩ := c_plan109 28 sc
  let cs : List Int := cutL sc (some 40) (some 63) ++ [3, 11, 8, 30, 17, 2, 40, 9]
  have hc0 : (cutL sc (some 40) (some 63)).length ≤ 23 := by
    have e : cutL sc (some 40) (some 63) = (sc.take 63).drop 40 := cut_mid (a := 40) (b := 63)
    rw [e, List.length_drop, List.length_take]
    omega
  have hcs : cutL (sc.map D.int) (some 40) (some 63) ++ [.int 3, .int 11, .int 8, .int 30, .int 17, .int 2, .int 40, .int 9] = cs.map .int := by
    show _ = (cutL sc (some 40) (some 63) ++ [3, 11, 8, 30, 17, 2, 40, 9]).map D.int
    rw [cutL_map1, List.map_append]
    rfl
  have h8 : 8 ≤ cs.length := by
    show 8 ≤ (cutL sc (some 40) (some 63) ++ [3, 11, 8, 30, 17, 2, 40, 9]).length
    rw [List.length_append]
    simp
  have h31 : cs.length ≤ 31 := by
    show (cutL sc (some 40) (some 63) ++ [3, 11, 8, 30, 17, 2, 40, 9]).length ≤ 31
    rw [List.length_append]
    simp; omega
  have lim : (cutL (sc.map D.int) (some 40) (some 63)).length + 8 ≤ LIM := by
    rw [cutL_map1, List.length_map]
    unfold LIM; omega
  clear_value cs
  have step := forV_inv (bind := fun d e => bindT [3] false d e) (body := fun e s => evSs (call PG 59) F129b0 e s)
    (fun k env st => ∃ x3 x4 x5 x6 x7, env = [some (.dat (.scr sc)), some (.dat (pD P)), some (.dat (.lst (cs.map .int))), x3, x4, x5, x6, x7] ∧ st = [])
    (ds := rngL 0 5) (k := 0) (env := [some (.dat (.scr sc)), some (.dat (pD P)), some (.dat (.lst (cs.map .int))), none, none, none, none, none]) (st := []) ⟨none, none, none, none, none, rfl, rfl⟩
  have hlp := step (by
    rintro i dd env st hi ⟨x3, x4, x5, x6, x7, rfl, rfl⟩
    obtain ⟨rfl, hi2⟩ := rngL_get hi
    rw [Int.zero_add]
    obtain ⟨y4, y5, y6, y7, e⟩ := body33 hP cs h8 h31 i (by omega) (some (.dat (.scr sc))) x4 x5 x6 x7
    exact ⟨_, _, _, rfl, e, _, _, _, _, _, rfl, rfl⟩)
  obtain ⟨e, s, hlp, x3, x4, x5, x6, x7, rfl, rfl⟩ := hlp
  have hlp' : FOR (call PG 59) [3] false F129b0 (rngL 0 5) [some (.dat (.scr sc)), some (.dat (pD P)), some (.dat (.lst (cs.map .int))), none, none, none, none, none] [] = _ := hlp
  have hr : rngOk 0 5 = true := by decide
  rw [call_go (d := 59) F129 rfl rfl]
  simp [F129, startE, e1, hcs, lim, hr, hlp']
end NK
set_option maxRecDepth 100000
set_option maxHeartbeats 0
namespace NK
open PySem PySem.Spec L2
def topS (i : Nat) : Stmt := PySem.Challenge.pw_notekeep_k33_whole_longer_runs.main.body.getD i (.Pass ⟨0, 0, 0, 0⟩)
def d0 : DefI := ⟨"_law_names", 35, topS 44, ["_law_cell_here", "_law_letters", "_law_found", "_law_k"], ["_law_cell_here"], ("_law_names", none), "_law_names"⟩
def d1 : DefI := ⟨"_law_number", 36, topS 43, ["_law_cell_here"], ["_law_cell_here"], ("_law_number", none), "_law_number"⟩
def d2 : DefI := ⟨"_law_take", 37, topS 42, ["_law_purse", "_law_mixed"], ["_law_purse"], ("_law_take", none), "_law_take"⟩
def d3 : DefI := ⟨"_law_terms", 38, topS 45, ["_law_purse", "_law_names_here", "_law_found", "_law_name", "_law_weight"], ["_law_purse", "_law_names_here"], ("_law_terms", none), "_law_terms"⟩
def d4 : DefI := ⟨"_law_row", 39, topS 47, ["_law_purse", "_law_names_here", "_law_terms_here"], ["_law_purse", "_law_names_here"], ("_law_row", none), "_law_row"⟩
def d5 : DefI := ⟨"_law_rows", 48, topS 48, ["_law_purse", "_law_names_here", "_law_many", "_law_k"], ["_law_purse", "_law_names_here", "_law_many"], ("_law_rows", none), "_law_rows"⟩
def d6 : DefI := ⟨"_law_one", 102, topS 49, ["_law_name", "_law_weight", "_law_whole"], ["_law_name", "_law_weight", "_law_whole"], ("_law_one", none), "_law_one"⟩
def d7 : DefI := ⟨"_law_tail", 103, topS 50, ["_law_purse", "_law_names_here", "_law_pick", "_law_x", "_law_y", "_law_step", "_law_turn", "_law_both", "_law_bound", "_law_keep", "_law_row_here", "_law_loop_here", "_law_fork"], ["_law_purse", "_law_names_here", "_law_pick"], ("_law_tail", none), "_law_tail"⟩
def d8 : DefI := ⟨"_law_loops", 104, topS 53, ["_law_block_here", "_law_found", "_law_one_here"], ["_law_block_here"], ("_law_loops", none), "_law_loops"⟩
def d9 : DefI := ⟨"_law_sum", 47, topS 46, ["_law_purse", "_law_names_here", "_law_terms_here"], ["_law_purse", "_law_names_here"], ("_law_sum", none), "_law_sum"⟩
def d10 : DefI := ⟨"_law_loop", 105, topS 54, ["_law_purse", "_law_names_here", "_law_low", "_law_left", "_law_row_here", "_law_rows_here", "_law_block_here", "_law_measure"], ["_law_purse", "_law_names_here", "_law_low", "_law_left"], ("_law_loop", none), "_law_loop"⟩
def d11 : DefI := ⟨"_law_statement", 106, topS 55, ["_law_purse", "_law_names_here", "_law_low", "_law_left", "_law_kind", "_law_name", "_law_row_here", "_law_one_here", "_law_other", "_law_rows_here"], ["_law_purse", "_law_names_here", "_law_low", "_law_left"], ("_law_statement", none), "_law_statement"⟩
def d12 : DefI := ⟨"_law_block", 107, topS 52, ["_law_purse", "_law_names_here", "_law_low", "_law_left", "_law_found", "_law_k"], ["_law_purse", "_law_names_here", "_law_low", "_law_left"], ("_law_block", none), "_law_block"⟩
def d13 : DefI := ⟨"_law_menu", 108, topS 51, ["_law_purse", "_law_names_here", "_law_pick", "_law_x", "_law_y", "_law_tail_here", "_law_given", "_law_more", "_law_ways", "_law_fork", "_law_note", "_law_sets", "_law_within", "_law_outer"], ["_law_purse", "_law_names_here", "_law_pick"], ("_law_menu", none), "_law_menu"⟩
def d14 : DefI := ⟨"_law_plan", 109, topS 56, ["_law_script", "_law_first", "_law_purse", "_law_names_here", "_law_rows_here"], ["_law_script"], ("_law_plan", none), "_law_plan"⟩
def d15 : DefI := ⟨"_law_cell", 20, topS 41, ["_law_script", "_law_k"], ["_law_script", "_law_k"], ("_law_cell", none), "_law_cell"⟩
def d16 : DefI := ⟨"_law_made", 110, topS 57, ["_law_top", "_law_low", "_law_one_here", "_law_other"], ["_law_top", "_law_low"], ("_law_made", none), "_law_made"⟩
def d17 : DefI := ⟨"_law_start", 111, topS 62, ["_law_names_here", "_law_cells", "_law_point", "_law_k", "_law_cell_here", "_law_some", "_law_top"], ["_law_names_here", "_law_cells"], ("_law_start", none), "_law_start"⟩
def d18 : DefI := ⟨"_law_turns", 112, topS 63, ["_law_cells", "_law_cell_here"], ["_law_cells"], ("_law_turns", none), "_law_turns"⟩
def d19 : DefI := ⟨"_law_givens", 113, topS 64, ["_law_cells", "_law_cell_here"], ["_law_cells"], ("_law_givens", none), "_law_givens"⟩
def d20 : DefI := ⟨"blocks_of", 59, topS 13, ["statement", "word"], ["statement"], ("blocks_of", none), "blocks_of"⟩
def d21 : DefI := ⟨"placed", 60, topS 14, ["block", "ahead", "found", "k", "statement", "place", "number", "inner"], ["block", "ahead"], ("placed", none), "placed"⟩
def d22 : DefI := ⟨"must_be_few", 61, topS 15, ["number", "most"], ["number", "most"], ("must_be_few", none), "must_be_few"⟩
def d23 : DefI := ⟨"counted", 62, topS 16, ["row", "words", "place", "statement"], ["row", "words"], ("counted", none), "counted"⟩
def d24 : DefI := ⟨"must_bounds", 63, topS 22, ["names", "row", "place", "statement"], ["names", "row"], ("must_bounds", none), "must_bounds"⟩
def d25 : DefI := ⟨"must_have", 64, topS 17, ["names", "own", "name"], ["names", "own"], ("must_have_plans", none), "must_have"⟩
def d26 : DefI := ⟨"names_in", 65, topS 19, ["rows", "found", "row", "name", "weight"], ["rows"], ("names_in", none), "names_in"⟩
def d27 : DefI := ⟨"names_by", 66, topS 20, ["statement", "word", "found", "name", "weight"], ["statement"], ("names_by", none), "names_by"⟩
def d28 : DefI := ⟨"has_loop", 67, topS 21, ["block"], ["block"], ("has_loop", none), "has_loop"⟩
def d29 : DefI := ⟨"must_plan", 68, topS 23, ["plan", "row", "names", "rows", "block", "place", "statement"], ["plan"], ("must_plan", none), "must_plan"⟩
def d30 : DefI := ⟨"must_start", 64, topS 35, ["names", "start", "name"], ["names", "start"], ("must_start", none), "must_start"⟩
def d31 : DefI := ⟨"__init__", 114, clsS (topS 38) 0, ["self", "names", "start", "turns", "givens", "name"], ["self", "names", "start", "turns", "givens"], (("Run" : Str), some ("__init__" : Str)), "Run.__init__"⟩
def d32 : DefI := ⟨"must_have", 25, topS 29, ["terms", "point", "name", "weight"], ["terms", "point"], ("must_have_sums", none), "must_have"⟩
def d33 : DefI := ⟨"common", 2, topS 25, ["one", "other"], ["one", "other"], ("common", none), "common"⟩
def d34 : DefI := ⟨"made", 3, topS 26, ["top", "bottom", "share"], ["top", "bottom"], ("made", none), "made"⟩
def d35 : DefI := ⟨"worth", 26, topS 31, ["total", "point", "top", "bottom", "terms", "whole", "by", "name", "weight", "up", "under"], ["total", "point"], ("worth", none), "worth"⟩
def d36 : DefI := ⟨"less", 7, topS 28, ["one", "other"], ["one", "other"], ("less", none), "less"⟩
def d37 : DefI := ⟨"is_so", 31, topS 32, ["row", "point", "found", "bound"], ["row", "point"], ("is_so", none), "is_so"⟩
def d38 : DefI := ⟨"all_so", 116, topS 36, ["rows", "point", "row"], ["rows", "point"], ("all_so", none), "all_so"⟩
def d39 : DefI := ⟨"stops", 117, clsS (topS 38) 1, ["self", "word", "place"], ["self", "word", "place"], (("Run" : Str), some ("stops" : Str)), "Run.stops"⟩
def d40 : DefI := ⟨"counts", 118, clsS (topS 38) 2, ["self", "place"], ["self", "place"], (("Run" : Str), some ("counts" : Str)), "Run.counts"⟩
def d41 : DefI := ⟨"passes", 119, clsS (topS 38) 3, ["self", "place"], ["self", "place"], (("Run" : Str), some ("passes" : Str)), "Run.passes"⟩
def d42 : DefI := ⟨"minus", 14, topS 27, ["one", "other"], ["one", "other"], ("minus", none), "minus"⟩
def d43 : DefI := ⟨"falls", 120, topS 37, ["measure", "point", "last"], ["measure", "point", "last"], ("falls", none), "falls"⟩
def d44 : DefI := ⟨"head", 121, clsS (topS 38) 7, ["self", "one", "place", "last", "so", "good", "row", "notes", "measure"], ["self", "one", "place", "last"], (("Run" : Str), some ("head" : Str)), "Run.head"⟩
def d45 : DefI := ⟨"loop", 122, clsS (topS 38) 8, ["self", "one", "place", "last", "going"], ["self", "one", "place"], (("Run" : Str), some ("loop" : Str)), "Run.loop"⟩
def d46 : DefI := ⟨"plain", 123, clsS (topS 38) 6, ["self", "one", "place", "sort", "turn"], ["self", "one", "place"], (("Run" : Str), some ("plain" : Str)), "Run.plain"⟩
def d47 : DefI := ⟨"statement", 124, clsS (topS 38) 5, ["self", "one", "place"], ["self", "one", "place"], (("Run" : Str), some ("statement" : Str)), "Run.statement"⟩
def d48 : DefI := ⟨"block", 125, clsS (topS 38) 4, ["self", "statements", "place", "k"], ["self", "statements", "place"], (("Run" : Str), some ("block" : Str)), "Run.block"⟩
def d49 : DefI := ⟨"run", 126, topS 39, ["plan", "start", "turns", "givens", "here", "names", "rows", "block"], ["plan", "start", "turns", "givens"], ("run", none), "run"⟩
def d50 : DefI := ⟨"_law_at", 127, topS 65, ["_law_block_here", "_law_place", "_law_one_here"], ["_law_block_here", "_law_place"], ("_law_at", none), "_law_at"⟩
def d51 : DefI := ⟨"_law_good", 128, topS 66, ["_law_plan_here", "_law_start_here", "_law_turns_here", "_law_givens_here", "_law_cell_here", "_law_told", "_law_some", "_law_few", "_law_fewer"], ["_law_plan_here", "_law_start_here", "_law_turns_here", "_law_givens_here", "_law_cell_here"], ("_law_good", none), "_law_good"⟩
def d52 : DefI := ⟨"law", 129, topS 67, ["_law_script", "_law_plan_here", "_law_cells", "_law_k", "_law_start_here", "_law_turns_here", "_law_givens_here", "_law_many"], ["_law_script"], ("law", none), "law"⟩
def dsL : List DefI := [d0, d1, d2, d3, d4, d5, d6, d7, d8, d9, d10, d11, d12, d13, d14, d15, d16, d17, d18, d19, d20, d21, d22, d23, d24, d25, d26, d27, d28, d29, d30, d31, d32, d33, d34, d35, d36, d37, d38, d39, d40, d41, d42, d43, d44, d45, d46, d47, d48, d49, d50, d51, d52]
def fsL : List (Str × Nat × Nat) := [(("_law_names" : Str), 35, 1), (("_law_number" : Str), 36, 1), (("_law_take" : Str), 37, 1), (("_law_terms" : Str), 38, 2), (("_law_row" : Str), 39, 2), (("_law_rows" : Str), 48, 3), (("_law_one" : Str), 102, 3), (("_law_tail" : Str), 103, 3), (("_law_loops" : Str), 104, 1), (("_law_sum" : Str), 47, 2), (("_law_loop" : Str), 105, 4), (("_law_statement" : Str), 106, 4), (("_law_block" : Str), 107, 4), (("_law_menu" : Str), 108, 3), (("_law_plan" : Str), 109, 1), (("_law_cell" : Str), 20, 2), (("_law_made" : Str), 110, 2), (("_law_start" : Str), 111, 2), (("_law_turns" : Str), 112, 1), (("_law_givens" : Str), 113, 1), (("blocks_of" : Str), 59, 1), (("placed" : Str), 60, 2), (("must_be_few" : Str), 61, 2), (("counted" : Str), 62, 2), (("must_bounds" : Str), 63, 2), (("must_have_plans" : Str), 64, 2), (("names_in" : Str), 65, 1), (("names_by" : Str), 66, 1), (("has_loop" : Str), 67, 1), (("must_plan" : Str), 68, 1), (("must_start" : Str), 64, 2), (("must_have_sums" : Str), 25, 2), (("common" : Str), 2, 2), (("made" : Str), 3, 2), (("worth" : Str), 26, 2), (("less" : Str), 7, 2), (("is_so" : Str), 31, 2), (("all_so" : Str), 116, 2), (("minus" : Str), 14, 2), (("falls" : Str), 120, 3), (("run" : Str), 126, 4), (("_law_at" : Str), 127, 2), (("_law_good" : Str), 128, 5), (("law" : Str), 129, 1)]
def gsL : List (Str × K1) := [(("MOST_NAMES" : Str), .inl 3), (("MOST_STATEMENTS" : Str), .inl 24), (("MOST_DEPTH" : Str), .inl 4), (("MOST_BRANCHES" : Str), .inl 2), (("MOST_LOOPS" : Str), .inl 2), (("MOST_GIVEN" : Str), .inl 1), (("MOST_NOTED" : Str), .inl 2), (("MOST_DEEDS" : Str), .inl 300)]
def frL : List Str := [("list" : Str), ("range" : Str), ("tuple" : Str), ("sorted" : Str), ("len" : Str), ("int" : Str), ("max" : Str), ("min" : Str), ("enumerate" : Str), ("sum" : Str), ("abs" : Str), ("all" : Str), ("dict" : Str)]
def clL : List CI := [⟨"Run", 1, [[112, 111, 105, 110, 116], [116, 117, 114, 110, 115], [103, 105, 118, 101, 110, 115], [100, 101, 101, 100, 115], [112, 97, 115, 115, 101, 100], [111, 118, 101, 114]], [([115, 116, 111, 112, 115], 117, 3), ([99, 111, 117, 110, 116, 115], 118, 2), ([112, 97, 115, 115, 101, 115], 119, 2), ([104, 101, 97, 100], 121, 4), ([108, 111, 111, 112], 122, 3), ([112, 108, 97, 105, 110], 123, 3), ([115, 116, 97, 116, 101, 109, 101, 110, 116], 124, 3), ([98, 108, 111, 99, 107], 125, 3)], some (115, 4)⟩]
theorem k0 : DOk PG fsL gsL frL clL d0 := ⟨by decide +kernel, fun _ _ _ _ _ _ us hl => match us, hl with | [_], _ => rfl⟩
theorem k1 : DOk PG fsL gsL frL clL d1 := ⟨by decide +kernel, fun _ _ _ _ _ _ us hl => match us, hl with | [_], _ => rfl⟩
theorem k2 : DOk PG fsL gsL frL clL d2 := ⟨by decide +kernel, fun _ _ _ _ _ _ us hl => match us, hl with | [_], _ => rfl⟩
theorem k3 : DOk PG fsL gsL frL clL d3 := ⟨by decide +kernel, fun _ _ _ _ _ _ us hl => match us, hl with | [_, _], _ => rfl⟩
theorem k4 : DOk PG fsL gsL frL clL d4 := ⟨by decide +kernel, fun _ _ _ _ _ _ us hl => match us, hl with | [_, _], _ => rfl⟩
theorem k5 : DOk PG fsL gsL frL clL d5 := ⟨by decide +kernel, fun _ _ _ _ _ _ us hl => match us, hl with | [_, _, _], _ => rfl⟩
theorem k6 : DOk PG fsL gsL frL clL d6 := ⟨by decide +kernel, fun _ _ _ _ _ _ us hl => match us, hl with | [_, _, _], _ => rfl⟩
theorem k7 : DOk PG fsL gsL frL clL d7 := ⟨by decide +kernel, fun _ _ _ _ _ _ us hl => match us, hl with | [_, _, _], _ => rfl⟩
theorem k8 : DOk PG fsL gsL frL clL d8 := ⟨by decide +kernel, fun _ _ _ _ _ _ us hl => match us, hl with | [_], _ => rfl⟩
theorem k9 : DOk PG fsL gsL frL clL d9 := ⟨by decide +kernel, fun _ _ _ _ _ _ us hl => match us, hl with | [_, _], _ => rfl⟩
theorem k10 : DOk PG fsL gsL frL clL d10 := ⟨by decide +kernel, fun _ _ _ _ _ _ us hl => match us, hl with | [_, _, _, _], _ => rfl⟩
theorem k11 : DOk PG fsL gsL frL clL d11 := ⟨by decide +kernel, fun _ _ _ _ _ _ us hl => match us, hl with | [_, _, _, _], _ => rfl⟩
theorem k12 : DOk PG fsL gsL frL clL d12 := ⟨by decide +kernel, fun _ _ _ _ _ _ us hl => match us, hl with | [_, _, _, _], _ => rfl⟩
theorem k13 : DOk PG fsL gsL frL clL d13 := ⟨by decide +kernel, fun _ _ _ _ _ _ us hl => match us, hl with | [_, _, _], _ => rfl⟩
theorem k14 : DOk PG fsL gsL frL clL d14 := ⟨by decide +kernel, fun _ _ _ _ _ _ us hl => match us, hl with | [_], _ => rfl⟩
theorem k15 : DOk PG fsL gsL frL clL d15 := ⟨by decide +kernel, fun _ _ _ _ _ _ us hl => match us, hl with | [_, _], _ => rfl⟩
theorem k16 : DOk PG fsL gsL frL clL d16 := ⟨by decide +kernel, fun _ _ _ _ _ _ us hl => match us, hl with | [_, _], _ => rfl⟩
theorem k17 : DOk PG fsL gsL frL clL d17 := ⟨by decide +kernel, fun _ _ _ _ _ _ us hl => match us, hl with | [_, _], _ => rfl⟩
theorem k18 : DOk PG fsL gsL frL clL d18 := ⟨by decide +kernel, fun _ _ _ _ _ _ us hl => match us, hl with | [_], _ => rfl⟩
theorem k19 : DOk PG fsL gsL frL clL d19 := ⟨by decide +kernel, fun _ _ _ _ _ _ us hl => match us, hl with | [_], _ => rfl⟩
theorem k20 : DOk PG fsL gsL frL clL d20 := ⟨by decide +kernel, fun _ _ _ _ _ _ us hl => match us, hl with | [_], _ => rfl⟩
theorem k21 : DOk PG fsL gsL frL clL d21 := ⟨by decide +kernel, fun _ _ _ _ _ _ us hl => match us, hl with | [_, _], _ => rfl⟩
theorem k22 : DOk PG fsL gsL frL clL d22 := ⟨by decide +kernel, fun _ _ _ _ _ _ us hl => match us, hl with | [_, _], _ => rfl⟩
theorem k23 : DOk PG fsL gsL frL clL d23 := ⟨by decide +kernel, fun _ _ _ _ _ _ us hl => match us, hl with | [_, _], _ => rfl⟩
theorem k24 : DOk PG fsL gsL frL clL d24 := ⟨by decide +kernel, fun _ _ _ _ _ _ us hl => match us, hl with | [_, _], _ => rfl⟩
theorem k25 : DOk PG fsL gsL frL clL d25 := ⟨by decide +kernel, fun _ _ _ _ _ _ us hl => match us, hl with | [_, _], _ => rfl⟩
theorem k26 : DOk PG fsL gsL frL clL d26 := ⟨by decide +kernel, fun _ _ _ _ _ _ us hl => match us, hl with | [_], _ => rfl⟩
theorem k27 : DOk PG fsL gsL frL clL d27 := ⟨by decide +kernel, fun _ _ _ _ _ _ us hl => match us, hl with | [_], _ => rfl⟩
theorem k28 : DOk PG fsL gsL frL clL d28 := ⟨by decide +kernel, fun _ _ _ _ _ _ us hl => match us, hl with | [_], _ => rfl⟩
theorem k29 : DOk PG fsL gsL frL clL d29 := ⟨by decide +kernel, fun _ _ _ _ _ _ us hl => match us, hl with | [_], _ => rfl⟩
theorem k30 : DOk PG fsL gsL frL clL d30 := ⟨by decide +kernel, fun _ _ _ _ _ _ us hl => match us, hl with | [_, _], _ => rfl⟩
theorem k31 : DOk PG fsL gsL frL clL d31 := ⟨by decide +kernel, fun _ _ _ _ _ _ us hl => match us, hl with | [_, _, _, _, _], _ => rfl⟩
theorem k32 : DOk PG fsL gsL frL clL d32 := ⟨by decide +kernel, fun _ _ _ _ _ _ us hl => match us, hl with | [_, _], _ => rfl⟩
theorem k33 : DOk PG fsL gsL frL clL d33 := ⟨by decide +kernel, fun _ _ _ _ _ _ us hl => match us, hl with | [_, _], _ => rfl⟩
theorem k34 : DOk PG fsL gsL frL clL d34 := ⟨by decide +kernel, fun _ _ _ _ _ _ us hl => match us, hl with | [_, _], _ => rfl⟩
theorem k35 : DOk PG fsL gsL frL clL d35 := ⟨by decide +kernel, fun _ _ _ _ _ _ us hl => match us, hl with | [_, _], _ => rfl⟩
theorem k36 : DOk PG fsL gsL frL clL d36 := ⟨by decide +kernel, fun _ _ _ _ _ _ us hl => match us, hl with | [_, _], _ => rfl⟩
theorem k37 : DOk PG fsL gsL frL clL d37 := ⟨by decide +kernel, fun _ _ _ _ _ _ us hl => match us, hl with | [_, _], _ => rfl⟩
theorem k38 : DOk PG fsL gsL frL clL d38 := ⟨by decide +kernel, fun _ _ _ _ _ _ us hl => match us, hl with | [_, _], _ => rfl⟩
theorem k39 : DOk PG fsL gsL frL clL d39 := ⟨by decide +kernel, fun _ _ _ _ _ _ us hl => match us, hl with | [_, _, _], _ => rfl⟩
theorem k40 : DOk PG fsL gsL frL clL d40 := ⟨by decide +kernel, fun _ _ _ _ _ _ us hl => match us, hl with | [_, _], _ => rfl⟩
theorem k41 : DOk PG fsL gsL frL clL d41 := ⟨by decide +kernel, fun _ _ _ _ _ _ us hl => match us, hl with | [_, _], _ => rfl⟩
theorem k42 : DOk PG fsL gsL frL clL d42 := ⟨by decide +kernel, fun _ _ _ _ _ _ us hl => match us, hl with | [_, _], _ => rfl⟩
theorem k43 : DOk PG fsL gsL frL clL d43 := ⟨by decide +kernel, fun _ _ _ _ _ _ us hl => match us, hl with | [_, _, _], _ => rfl⟩
theorem k44 : DOk PG fsL gsL frL clL d44 := ⟨by decide +kernel, fun _ _ _ _ _ _ us hl => match us, hl with | [_, _, _, _], _ => rfl⟩
theorem k45 : DOk PG fsL gsL frL clL d45 := ⟨by decide +kernel, fun _ _ _ _ _ _ us hl => match us, hl with | [_, _, _], _ => rfl⟩
theorem k46 : DOk PG fsL gsL frL clL d46 := ⟨by decide +kernel, fun _ _ _ _ _ _ us hl => match us, hl with | [_, _, _], _ => rfl⟩
theorem k47 : DOk PG fsL gsL frL clL d47 := ⟨by decide +kernel, fun _ _ _ _ _ _ us hl => match us, hl with | [_, _, _], _ => rfl⟩
theorem k48 : DOk PG fsL gsL frL clL d48 := ⟨by decide +kernel, fun _ _ _ _ _ _ us hl => match us, hl with | [_, _, _], _ => rfl⟩
theorem k49 : DOk PG fsL gsL frL clL d49 := ⟨by decide +kernel, fun _ _ _ _ _ _ us hl => match us, hl with | [_, _, _, _], _ => rfl⟩
theorem k50 : DOk PG fsL gsL frL clL d50 := ⟨by decide +kernel, fun _ _ _ _ _ _ us hl => match us, hl with | [_, _], _ => rfl⟩
theorem k51 : DOk PG fsL gsL frL clL d51 := ⟨by decide +kernel, fun _ _ _ _ _ _ us hl => match us, hl with | [_, _, _, _, _], _ => rfl⟩
theorem k52 : DOk PG fsL gsL frL clL d52 := ⟨by decide +kernel, fun _ _ _ _ _ _ us hl => match us, hl with | [_], _ => rfl⟩
theorem kAll : ∀ d ∈ dsL, DOk PG fsL gsL frL clL d := by
  intro d hd
  simp only [dsL, List.mem_cons, List.not_mem_nil, or_false] at hd
  rcases hd with rfl | rfl | rfl | rfl | rfl | rfl | rfl | rfl | rfl | rfl | rfl | rfl | rfl | rfl | rfl | rfl | rfl | rfl | rfl | rfl | rfl | rfl | rfl | rfl | rfl | rfl | rfl | rfl | rfl | rfl | rfl | rfl | rfl | rfl | rfl | rfl | rfl | rfl | rfl | rfl | rfl | rfl | rfl | rfl | rfl | rfl | rfl | rfl | rfl | rfl | rfl | rfl | rfl
  · exact k0
  · exact k1
  · exact k2
  · exact k3
  · exact k4
  · exact k5
  · exact k6
  · exact k7
  · exact k8
  · exact k9
  · exact k10
  · exact k11
  · exact k12
  · exact k13
  · exact k14
  · exact k15
  · exact k16
  · exact k17
  · exact k18
  · exact k19
  · exact k20
  · exact k21
  · exact k22
  · exact k23
  · exact k24
  · exact k25
  · exact k26
  · exact k27
  · exact k28
  · exact k29
  · exact k30
  · exact k31
  · exact k32
  · exact k33
  · exact k34
  · exact k35
  · exact k36
  · exact k37
  · exact k38
  · exact k39
  · exact k40
  · exact k41
  · exact k42
  · exact k43
  · exact k44
  · exact k45
  · exact k46
  · exact k47
  · exact k48
  · exact k49
  · exact k50
  · exact k51
  · exact k52
abbrev faL : List He.Fa := faOf dsL gsL frL clL
abbrev fnL : List He.DefD := dsL.map DefI.D
abbrev RL : PySem.W.OpenRow := PySem.W.OpenLaw.row PySem.Challenge.rw_notekeep_k33_whole_longer_runs
abbrev hkL : PySem.W.Hook := He.hookD 5 faL fnL
def obL (s : PySem.W.SharedT) : He.AlD := He.obsDG 5 faL fnL (HandSHeadRun.getT s)
theorem obL_eq (s : PySem.W.SharedT) : obL s = hkL.obs s.abs := He.obsDG_eq (HandSHeadRun.getT_eq s)
def looseL : List PySem.Str := (["KeepError", "NoName", "TooGreat", "NoMeasure", "MOST_NAMES", "MOST_STATEMENTS", "MOST_DEPTH", "MOST_BRANCHES", "MOST_LOOPS", "MOST_GIVEN", "MOST_NOTED", "blocks_of", "placed", "must_be_few", "counted", "must_have", "must_have_plans", "names_in", "names_by", "has_loop", "must_bounds", "must_plan", "common", "made", "minus", "less", "must_have_sums", "worth", "is_so", "MOST_DEEDS"] : List PySem.Str) ++ (["must_start", "all_so", "falls", "Run", "run", "_law_cell", "_law_take", "_law_number", "_law_names", "_law_terms", "_law_sum", "_law_row", "_law_rows", "_law_one", "_law_tail", "_law_menu", "_law_block", "_law_loops", "_law_loop", "_law_statement", "_law_plan", "_law_made", "_law_total", "_law_worth", "_law_so", "_law_all_so", "_law_start", "_law_turns", "_law_givens", "_law_at"] : List PySem.Str) ++ (["_law_good"] : List PySem.Str)
theorem runL (w : World) : HandSHeadRun.RunEq RL (PySem.W.view RL.prog [67]) hkL obL 20000 looseL w := by
  intro os
  kernel_rfl
end NK
open PySem PySem.W PySem.Calls PyProof.Rows
theorem PySem.Challenge.cw_notekeep_k33_whole_longer_runs_holds : PySem.Challenge.rw_notekeep_k33_whole_longer_runs.Holds := by
  w_on; o_law
  refine HandSHeadRun.head_any (r := OpenLaw.row PySem.Challenge.rw_notekeep_k33_whole_longer_runs) (q := view (OpenLaw.row PySem.Challenge.rw_notekeep_k33_whole_longer_runs).prog [67]) (H := NK.hkL) (ob := NK.obL) (M := 20000) (loose := NK.looseL) (d := HandSHeadRun.topDef (OpenLaw.row PySem.Challenge.rw_notekeep_k33_whole_longer_runs).prog 67) (kwd := []) NK.obL_eq
    (by kernel_rfl) (fun s => by kernel_rfl) NK.runL (by kernel_rfl) (by kernel_rfl) (by kernel_rfl) (by rfl) (by first | assumption | decide +kernel) (by decide +kernel) ⟨rfl, rfl, rfl, rfl, rfl, by decide +kernel⟩ ?hw ?hc
  case hw => w_witness2
  case hc =>
    refine NK.nk_walk (l := PySem.Challenge.rw_notekeep_k33_whole_longer_runs) (k := 60) (P := NK.PG) (dl := NK.d52) (x := "_law_script") rfl (by kernel_rfl) ⟨rfl, by decide, by decide⟩ (by kernel_rfl) rfl rfl (by decide +kernel) ?T NK.law_main
    intro w mg h Y G
    obtain ⟨K, KX, c⟩ := Y
    exact ⟨K, NK.csOf K NK.clL, NK.fsL, NK.gsL, NK.frL, NK.clL, NK.dsL, KX, NK.top_ok KX G c NK.kAll (by decide +kernel) (by decide +kernel), List.mem_of_getElem? (show NK.dsL[52]? = some NK.d52 from rfl)⟩
