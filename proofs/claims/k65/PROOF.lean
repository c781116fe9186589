import PyProof.Rows.All
import Wide.All
import OpenK.AllK
import Wide.FinOn
import HandS.ForMost
import HandS.Exc
import HandS.ExcOwn
import HandS.WordsExc
import HandS.TupAny
import HandS.StrMore
import HandS.Deep
import HandS.Wide
import HandS.WideBits
import HandS.Conv
import HandS.Iter
import HandS.Comp
import HandS.IsInst
import HandS.More
import HandS.Text
import HandS.SortInts
import HandS.Codes
import PySem.Challenge.RW_creasehold_k65_texts_of_strips_and_bands
set_option Elab.async false
set_option linter.all false
set_option maxRecDepth 100000
namespace L3
open PySem PySem.Spec PyProof.Rows L2

abbrev D := PyData
inductive Ob where
  | lst (xs : List D)
  | dk (kvs : List (Key × D))
  | dt (kvs : List (List Key × D))
inductive Sl where
  | no
  | d (x : D)
  | ow (src : Option Nat) (o : Ob)
inductive Rs where
  | d (x : D)
  | nw (o : Ob)
  | at (i : Nat)
abbrev En := List Sl
/-- the script's list -/
def scrD (ns : List Int) : D := .dict (ns.map fun n => (.int n, .none))
def SqS (K : PySem.W.Frag) (H : Hp) (a : Addr) (xs : List V) : Prop := (∃ o, H a = some (.frz o (.lst xs))) ∨ SqL K (fun _ => none) a xs
theorem SqS.sq {K : PySem.W.Frag} {H : Hp} {a : Addr} {xs : List V} (h : SqS K H a xs) : SqL K H a xs := by
  rcases h with ⟨o, h⟩ | ((h | ⟨o, h⟩) | h)
  · exact .inl (.inr ⟨o, h⟩)
  · cases h
  · cases h
  · exact .inr h
theorem scrD_inj {a b : List Int} (h : scrD a = scrD b) : a = b := by
  have e : a.map (fun n => ((PyData.int n, PyData.none) : D × D)) = b.map fun n => (.int n, .none) := PyData.dict.inj h
  induction a generalizing b with
  | nil =>
    cases b with
    | nil => rfl
    | cons _ _ => cases e
  | cons x a ih =>
    cases b with
    | nil => cases e
    | cons y b =>
      simp only [List.map_cons, List.cons.injEq, Prod.mk.injEq, PyData.int.injEq, and_true] at e
      rw [e.1, ih (congrArg PyData.dict e.2) e.2]

mutual
inductive Rp (K : PySem.W.Frag) (H : Hp) (ok : Addr → Prop) : V → D → Prop
  | scr {a : Addr} {ns : List Int} : SqS K H a (ns.map V.int) → Rp K H ok (.ref a) (scrD ns)
  | non : Rp K H ok .non .none
  | bl (b : Bool) : Rp K H ok (.bl b) (.bool b)
  | int (i : Int) : Rp K H ok (.int i) (.int i)
  | str (x : Str) : Rp K H ok (.str x) (.str x)
  | lst {a : Addr} {xs : List V} {ds : List D} : H a = some (.lst xs) → ok a → RpL K H ok xs ds → Rp K H ok (.ref a) (.list ds)
  | tup {a : Addr} {xs : List V} {ds : List D} : SqT K H a xs → RpL K H ok xs ds → Rp K H ok (.ref a) (.tuple ds)
inductive RpL (K : PySem.W.Frag) (H : Hp) (ok : Addr → Prop) : List V → List D → Prop
  | nil : RpL K H ok [] []
  | cons {v : V} {vs : List V} {d : D} {ds : List D} : Rp K H ok v d → RpL K H ok vs ds → RpL K H ok (v :: vs) (d :: ds)
end
section
variable {K : PySem.W.Frag} {H H' : Hp} {ok ok' : Addr → Prop}
mutual
theorem Rp.imp (hl : ∀ a xs, H a = some (.lst xs) → ok a → H' a = some (.lst xs) ∧ ok' a) (ht : ∀ a xs, SqT K H a xs → SqT K H' a xs) (hs : ∀ a xs, SqS K H a xs → SqS K H' a xs) : ∀ (d : D) (v : V), Rp K H ok v d → Rp K H' ok' v d
  | .none, _, h => by cases h; exact .non
  | .bool b, _, h => by cases h; exact .bl b
  | .int i, _, h => by cases h; exact .int i
  | .str x, _, h => by cases h; exact .str x
  | .list ds, _, h => by
    cases h with
    | lst h1 h2 h3 => exact .lst (hl _ _ h1 h2).1 (hl _ _ h1 h2).2 (RpL.imp hl ht hs ds _ h3)
  | .tuple ds, _, h => by
    cases h with
    | tup h1 h3 => exact .tup (ht _ _ h1) (RpL.imp hl ht hs ds _ h3)
  | .dict kvs, _, h => by
    cases h with
    | scr q => exact .scr (hs _ _ q)
theorem RpL.imp (hl : ∀ a xs, H a = some (.lst xs) → ok a → H' a = some (.lst xs) ∧ ok' a) (ht : ∀ a xs, SqT K H a xs → SqT K H' a xs) (hs : ∀ a xs, SqS K H a xs → SqS K H' a xs) : ∀ (ds : List D) (vs : List V), RpL K H ok vs ds → RpL K H' ok' vs ds
  | [], _, h => by cases h; exact .nil
  | d :: ds, _, h => by
    cases h with
    | cons h1 h2 => exact .cons (Rp.imp hl ht hs d _ h1) (RpL.imp hl ht hs ds _ h2)
end
theorem RpL.length : ∀ {vs : List V} {ds : List D}, RpL K H ok vs ds → vs.length = ds.length
  | _, _, .nil => rfl
  | _, _, .cons _ t => by rw [List.length_cons, List.length_cons, RpL.length t]
theorem RpL.get : ∀ {vs : List V} {ds : List D} {i : Nat} {d : D}, RpL K H ok vs ds → ds[i]? = some d → ∃ v, vs[i]? = some v ∧ Rp K H ok v d
  | _, _, _, _, .nil, e => by simp at e
  | _, _, 0, _, .cons r _, e => by
    simp at e; subst e; exact ⟨_, rfl, r⟩
  | _, _, i + 1, d, .cons _ t, e => by
    obtain ⟨v, h1, h2⟩ := RpL.get (i := i) (d := d) t (by simpa using e)
    exact ⟨v, by simpa using h1, h2⟩
theorem RpL.get' : ∀ {vs : List V} {ds : List D} {i : Nat} {v : V}, RpL K H ok vs ds → vs[i]? = some v → ∃ d, ds[i]? = some d ∧ Rp K H ok v d
  | _, _, _, _, .nil, e => by simp at e
  | _, _, 0, _, .cons r _, e => by
    simp at e; subst e; exact ⟨_, rfl, r⟩
  | _, _, i + 1, d, .cons _ t, e => by
    obtain ⟨v, h1, h2⟩ := RpL.get' (i := i) (v := d) t (by simpa using e)
    exact ⟨v, by simpa using h1, h2⟩
theorem RpL.append : ∀ {vs ws : List V} {ds es : List D}, RpL K H ok vs ds → RpL K H ok ws es → RpL K H ok (vs ++ ws) (ds ++ es)
  | _, _, _, _, .nil, s => s
  | _, _, _, _, .cons r t, s => .cons r (RpL.append t s)
theorem RpL.take : ∀ {vs : List V} {ds : List D} (n : Nat), RpL K H ok vs ds → RpL K H ok (vs.take n) (ds.take n)
  | _, _, 0, _ => .nil
  | _, _, _ + 1, .nil => .nil
  | _, _, n + 1, .cons r t => .cons r (RpL.take n t)
theorem RpL.drop : ∀ {vs : List V} {ds : List D} (n : Nat), RpL K H ok vs ds → RpL K H ok (vs.drop n) (ds.drop n)
  | _, _, 0, r => r
  | _, _, _ + 1, .nil => .nil
  | _, _, n + 1, .cons _ t => RpL.drop n t
theorem RpL.set {v : V} {d : D} (r : Rp K H ok v d) : ∀ {vs : List V} {ds : List D} (i : Nat), RpL K H ok vs ds → RpL K H ok (vs.set i v) (ds.set i d)
  | _, _, _, .nil => .nil
  | _, _, 0, .cons _ t => .cons r t
  | _, _, i + 1, .cons q t => .cons q (RpL.set r i t)
theorem RpL.reverse {vs : List V} {ds : List D} (h : RpL K H ok vs ds) : RpL K H ok vs.reverse ds.reverse := by
  induction ds generalizing vs with
  | nil => cases h; exact .nil
  | cons d ds ih =>
    cases h with
    | cons r t =>
      rw [List.reverse_cons, List.reverse_cons]
      exact (ih t).append (.cons r .nil)
theorem RpL.ints : ∀ (ns : List Int) {vs : List V}, RpL K H ok vs (ns.map PyData.int) → vs = ns.map V.int
  | [], _, h => by cases h; rfl
  | n :: ns, _, h => by
    cases h with
    | cons r t => cases r; rw [RpL.ints ns t]; rfl
theorem RpL.of_ints : ∀ (ns : List Int), RpL K H ok (ns.map V.int) (ns.map PyData.int)
  | [] => .nil
  | n :: ns => .cons (.int n) (RpL.of_ints ns)
theorem RpL.strs : ∀ (ns : List Str) {vs : List V}, RpL K H ok vs (ns.map PyData.str) → vs = ns.map V.str
  | [], _, h => by cases h; rfl
  | n :: ns, _, h => by
    cases h with
    | cons r t => cases r; rw [RpL.strs ns t]; rfl
theorem RpL.bls : ∀ (ns : List Bool) {vs : List V}, RpL K H ok vs (ns.map PyData.bool) → vs = ns.map V.bl
  | [], _, h => by cases h; rfl
  | n :: ns, _, h => by
    cases h with
    | cons r t => cases r; rw [RpL.bls ns t]; rfl
end

/-! ### the state -/
abbrev Exc := Addr × Option (List (Str × D))
structure F3 where
  H0 : Hp
  arg : Nat → Option Addr
  ok : Addr → Prop
  okn : ∀ p, H0 p = none → ok p
  E3 : Exc → Prop

def ObOk (K : PySem.W.Frag) (H : Hp) (ok : Addr → Prop) (a : Addr) : Ob → Prop
  | .lst ds => ∃ xs, H a = some (.lst xs) ∧ RpL K H ok xs ds
  | .dk kvs => ∃ ks : List (Key × V), H a = some (.dK ks) ∧ Paired (fun (p : Key × V) (q : Key × D) => p.1 = q.1 ∧ Rp K H ok p.2 q.2) ks kvs
  | .dt kvs => ∃ ks : List (List Key × V), H a = some (.dT ks) ∧ Paired (fun (p : List Key × V) (q : List Key × D) => p.1 = q.1 ∧ Rp K H ok p.2 q.2) ks kvs

abbrev Cell := Option V × Sl
def ownC : Cell → List Addr
  | (some (.ref a), .ow _ _) => [a]
  | _ => []
abbrev own (C : List Cell) : List Addr := C.flatMap ownC
def SrcOk (F : F3) (a : Addr) : Option Nat → Prop
  | none => F.H0 a = none
  | some k => F.arg k = some a
def CellOk (K : PySem.W.Frag) (F : F3) (O : List Addr) (H : Hp) : Cell → Prop
  | (_, .no) => True
  | (some v, .d x) => Rp K H (fun a => F.ok a ∧ a ∉ O) v x
  | (some (.ref a), .ow s o) => ObOk K H (fun a => F.ok a ∧ a ∉ O) a o ∧ SrcOk F a s
  | _ => False
def Keeps (F : F3) (H : Hp) : Prop := ∀ b o, F.H0 b = some o → (∀ k, F.arg k ≠ some b) → H b = some o
/-- what an owned object may be -/
def MutO : HO → Prop
  | .lst _ => True
  | .dK _ => True
  | .dT _ => True
  | _ => False
structure S3 (K : PySem.W.Frag) (F : F3) (C : List Cell) (H : Hp) : Prop where
  nd : (own C).Nodup
  ok : ∀ c ∈ C, CellOk K F (own C) H c
  kp : Keeps F H
  ar : ∀ k a, F.arg k = some a → ∃ u, H a = some u ∧ MutO u

def tC1 : V × Rs → List Cell
  | (v, .d x) => [(some v, .d x)]
  | (v, .nw o) => [(some v, .ow none o)]
  | (_, .at _) => []
abbrev Tm := List (V × Rs)
abbrev tCs (T : Tm) : List Cell := T.flatMap tC1
structure St3 (K : PySem.W.Frag) (F : F3) (ρ : En) (σ : L2.St) (T : Tm) (H : Hp) : Prop where
  len : σ.length = ρ.length
  s : S3 K F (tCs T ++ List.zip σ ρ) H
  al : ∀ p ∈ T, ∀ i, p.2 = .at i → σ[i]? = some (some p.1)

section
variable {K : PySem.W.Frag} {F : F3} {C C' : List Cell} {H H' : Hp} {c : Cell} {v : V} {x : D} {a p : Addr} {o o' : Ob} {s : Option Nat} {O O' : List Addr}
theorem ObOk.imp {ok ok' : Addr → Prop} (h : ObOk K H ok a o) (hd : ∀ v x, Rp K H ok v x → Rp K H' ok' v x) (ha : H' a = H a) : ObOk K H' ok' a o := by
  cases o with
  | lst ds =>
    obtain ⟨xs, e, r⟩ := h
    refine ⟨xs, ha.trans e, ?_⟩
    clear e ha
    induction ds generalizing xs with
    | nil => cases r; exact .nil
    | cons d ds ih =>
      cases r with
      | cons r1 r2 => exact .cons (hd _ _ r1) (ih _ r2)
  | dk kvs =>
    obtain ⟨ks, e, r⟩ := h
    exact ⟨ks, ha.trans e, Paired.mapP r fun p q z => ⟨z.1, hd _ _ z.2⟩⟩
  | dt kvs =>
    obtain ⟨ks, e, r⟩ := h
    exact ⟨ks, ha.trans e, Paired.mapP r fun p q z => ⟨z.1, hd _ _ z.2⟩⟩
theorem ObOk.mut {ok : Addr → Prop} (h : ObOk K H ok a o) : ∃ u, H a = some u ∧ MutO u := by
  cases o with
  | lst ds => obtain ⟨xs, e, r⟩ := h; exact ⟨_, e, trivial⟩
  | dk kvs => obtain ⟨xs, e, r⟩ := h; exact ⟨_, e, trivial⟩
  | dt kvs => obtain ⟨xs, e, r⟩ := h; exact ⟨_, e, trivial⟩
theorem CellOk.imp {F' : F3} (h : CellOk K F O H c) (hd : ∀ v x, Rp K H (fun a => F.ok a ∧ a ∉ O) v x → Rp K H' (fun a => F'.ok a ∧ a ∉ O') v x) (ha : ∀ b ∈ ownC c, H' b = H b) (hs : ∀ a s, SrcOk F a s → SrcOk F' a s) : CellOk K F' O' H' c := by
  obtain ⟨v, sl⟩ := c
  cases sl with
  | no => exact trivial
  | d x =>
    cases v with
    | none => exact h.elim
    | some v => exact hd _ _ h
  | ow s o =>
    cases v with
    | none => exact h.elim
    | some v =>
      cases v with
      | ref a =>
        obtain ⟨h1, h2⟩ : ObOk K H (fun a => F.ok a ∧ a ∉ O) a o ∧ SrcOk F a s := h
        exact ⟨h1.imp hd (ha a (by simp [ownC])), hs _ _ h2⟩
      | _ => exact h.elim
theorem CellOk.mut (h : CellOk K F O H c) : ∀ b ∈ ownC c, ∃ u, H b = some u ∧ MutO u := by
  intro b hb
  obtain ⟨v, sl⟩ := c
  cases sl with
  | no => cases v <;> simp [ownC] at hb
  | d x => cases v <;> simp [ownC] at hb
  | ow s o =>
    cases v with
    | none => simp [ownC] at hb
    | some v =>
      cases v with
      | ref a =>
        obtain ⟨h1, h2⟩ : ObOk K H (fun a => F.ok a ∧ a ∉ O) a o ∧ SrcOk F a s := h
        simp [ownC] at hb
        subst hb
        exact h1.mut
      | _ => simp [ownC] at hb
theorem S3.mut (h : S3 K F C H) : ∀ b ∈ own C, ∃ u, H b = some u ∧ MutO u := by
  intro b hb
  obtain ⟨c, hc, hb⟩ := List.mem_flatMap.mp hb
  exact (h.ok c hc).mut b hb
/-- data is carried over where the heap keeps what is not owned -/
theorem rp_keep {ok ok' : Addr → Prop} (hk : ∀ b u, H b = some u → (¬ MutO u ∨ ok b) → H' b = some u) (hok : ∀ b, ok b → ok' b) {v : V} {x : D} (h : Rp K H ok v x) : Rp K H' ok' v x := by
  refine Rp.imp (fun a xs q k => ⟨hk _ _ q (.inr k), hok a k⟩) (fun a xs q => ?_) (fun a xs q => ?_) x v h
  · rcases q with (q | ⟨ob, q⟩) | q
    · exact .inl (.inl (hk _ _ q (.inl (fun z => z))))
    · exact .inl (.inr ⟨ob, hk _ _ q (.inl (fun z => z))⟩)
    · exact .inr q
  · rcases q with ⟨ob, q⟩ | q
    · exact .inl ⟨ob, hk _ _ q (.inl (fun z => z))⟩
    · exact .inr q
theorem S3.perm (h : S3 K F C H) (p : C.Perm C') : S3 K F C' H := by
  have po : (own C).Perm (own C') := List.Perm.flatMap_right ownC p
  refine ⟨po.nodup_iff.mp h.nd, fun c hc => ?_, h.kp, h.ar⟩
  refine (h.ok c (p.mem_iff.mpr hc)).imp (fun v x r => rp_keep (fun _ _ q _ => q) (fun b hb => ⟨hb.1, fun z => hb.2 (po.mem_iff.mpr z)⟩) r) (fun _ _ => rfl) fun _ _ z => z
theorem S3.tail (h : S3 K F (c :: C) H) : S3 K F C H := by
  have e : own (c :: C) = ownC c ++ own C := by simp [own]
  refine ⟨?_, fun c' hc => ?_, h.kp, h.ar⟩
  · have := h.nd
    rw [e] at this
    exact (List.nodup_append.mp this).2.1
  · refine (h.ok c' (List.mem_cons_of_mem _ hc)).imp (fun v x r => rp_keep (fun _ _ q _ => q) (fun b hb => ⟨hb.1, fun z => hb.2 ?_⟩) r) (fun _ _ => rfl) fun _ _ z => z
    rw [e]
    exact List.mem_append_right _ z
theorem S3.rp (h : S3 K F C H) (hc : (some v, Sl.d x) ∈ C) : Rp K H (fun a => F.ok a ∧ a ∉ own C) v x := h.ok _ hc
theorem S3.add (h : S3 K F C H) (r : Rp K H (fun a => F.ok a ∧ a ∉ own C) v x) : S3 K F ((some v, .d x) :: C) H := by
  have e : own ((some v, Sl.d x) :: C) = own C := by simp [own, ownC]
  refine ⟨by rw [e]; exact h.nd, fun c hc => ?_, h.kp, h.ar⟩
  rw [e]
  rcases List.mem_cons.mp hc with z | hc
  · subst z; exact r
  · exact h.ok c hc
theorem S3.addNo (h : S3 K F C H) {v : Option V} : S3 K F ((v, .no) :: C) H := by
  have e : own ((v, Sl.no) :: C) = own C := by
    cases v with
    | none => simp [own, ownC]
    | some v => cases v <;> simp [own, ownC]
  refine ⟨by rw [e]; exact h.nd, fun c hc => ?_, h.kp, h.ar⟩
  rw [e]
  rcases List.mem_cons.mp hc with z | hc
  · subst z; exact trivial
  · exact h.ok c hc
/-- the heap grows by an object that is not owned -/
theorem S3.grow (h : S3 K F C H) (hp : H p = none) (u : HO) : S3 K F C (upd H p u) := by
  refine ⟨h.nd, fun c hc => ?_, fun b ob e hb => ?_, fun k a e => ?_⟩
  · refine (h.ok c hc).imp (fun v x r => rp_keep (fun b u q _ => ?_) (fun _ z => z) r) (fun b hb => ?_) fun _ _ z => z
    · rw [upd_ne (ne_of_none q hp)]; exact q
    · obtain ⟨u, hu, _⟩ := (h.ok c hc).mut b hb
      exact upd_ne (ne_of_none hu hp)
  · have q := h.kp b ob e hb
    rw [upd_ne (ne_of_none q hp)]; exact q
  · obtain ⟨u, hu, hm⟩ := h.ar k a e
    exact ⟨u, by rw [upd_ne (ne_of_none hu hp)]; exact hu, hm⟩
theorem rpL_map {ok ok' : Addr → Prop} (hd : ∀ v x, Rp K H ok v x → Rp K H' ok' v x) : ∀ {vs : List V} {ds : List D}, RpL K H ok vs ds → RpL K H' ok' vs ds
  | _, _, .nil => .nil
  | _, _, .cons r t => .cons (hd _ _ r) (rpL_map hd t)
theorem S3.fresh (h : S3 K F C H) (hp : H p = none) : p ∉ own C ∧ F.H0 p = none := by
  refine ⟨fun z => ?_, ?_⟩
  · obtain ⟨u, hu, _⟩ := h.mut p z
    rw [hp] at hu; cases hu
  · cases q : F.H0 p with
    | none => rfl
    | some u =>
      have := h.kp p u q fun k e => by
        obtain ⟨u, hu, _⟩ := h.ar k p e
        rw [hp] at hu; cases hu
      rw [hp] at this; cases this
/-- the avoided addresses grow by an address that no data stands at -/
theorem Rp.avoid {ok : Addr → Prop} (h : Rp K H (fun a => ok a ∧ a ∉ O) v x) (hp : H p = none) : Rp K H (fun a => ok a ∧ a ∉ p :: O) v x :=
  Rp.imp (fun a xs q k => ⟨q, k.1, fun z => by
    rcases List.mem_cons.mp z with z | z
    · subst z
      rw [hp] at q; cases q
    · exact k.2 z⟩) (fun _ _ q => q) (fun _ _ q => q) x v h
/-- a new owned object at p; its contents stand already -/
theorem S3.newOb (h : S3 K F C H) (hp : H p = none) {u : HO} (hu : MutO u)
    (r : ∀ ok : Addr → Prop, (∀ v x, Rp K H (fun a => F.ok a ∧ a ∉ own C) v x → Rp K (upd H p u) ok v x) → ObOk K (upd H p u) ok p o) :
    S3 K F ((some (.ref p), .ow none o) :: C) (upd H p u) := by
  have e : own ((some (V.ref p), Sl.ow none o) :: C) = p :: own C := by simp [own, ownC]
  have f := h.fresh hp
  have car : ∀ v x, Rp K H (fun a => F.ok a ∧ a ∉ own C) v x → Rp K (upd H p u) (fun a => F.ok a ∧ a ∉ p :: own C) v x := fun v x z =>
    rp_keep (fun b w q _ => by rw [upd_ne (ne_of_none q hp)]; exact q) (fun _ z => z) (z.avoid hp)
  have g := h.grow hp u
  refine ⟨by rw [e]; exact List.nodup_cons.mpr ⟨f.1, h.nd⟩, fun c hc => ?_, g.kp, g.ar⟩
  rw [e]
  rcases List.mem_cons.mp hc with z | hc
  · subst z
    exact ⟨r _ car, f.2⟩
  · refine (h.ok c hc).imp car (fun b hb => ?_) fun _ _ z => z
    obtain ⟨u, hu, _⟩ := (h.ok c hc).mut b hb
    exact upd_ne (ne_of_none hu hp)
/-- an owned list is not changed any more -/
theorem S3.freeze {ds : List D} (h : S3 K F ((some (.ref a), .ow none (.lst ds)) :: C) H) : S3 K F ((some (.ref a), .d (.list ds)) :: C) H := by
  have e : own ((some (V.ref a), Sl.ow none (.lst ds)) :: C) = a :: own C := by simp [own, ownC]
  have hn := h.nd
  rw [e] at hn
  obtain ⟨⟨xs, hx, r⟩, hs⟩ : ObOk K H (fun b => F.ok b ∧ b ∉ own ((some (V.ref a), Sl.ow none (.lst ds)) :: C)) a (.lst ds) ∧ F.H0 a = none := h.ok _ List.mem_cons_self
  refine h.tail.add (.lst hx ⟨F.okn a hs, (List.nodup_cons.mp hn).1⟩ (rpL_map (fun v x z => rp_keep (fun _ _ q _ => q) (fun b k => ⟨k.1, fun z => k.2 ?_⟩) z) r))
  rw [e]
  exact List.mem_cons_of_mem _ z
theorem sq_keep {O : List Addr} {u : HO} (hm : ∃ w, H a = some w ∧ MutO w) (ha : a ∈ O) {ok : Addr → Prop} {v : V} {x : D} (h : Rp K H (fun b => ok b ∧ b ∉ O) v x) : Rp K (upd H a u) (fun b => ok b ∧ b ∉ O) v x := by
  refine rp_keep (fun b w q k => ?_) (fun _ z => z) h
  rw [upd_ne]
  · exact q
  · rintro rfl
    rcases k with k | k
    · obtain ⟨w', e, m⟩ := hm
      rw [q] at e; cases e; exact k m
    · exact k.2 ha
/-- an owned object is written -/
theorem S3.write (h : S3 K F ((some (.ref a), .ow s o) :: C) H) {u : HO} (hu : MutO u)
    (r : ∀ ok : Addr → Prop, (∀ v x, Rp K H (fun b => F.ok b ∧ b ∉ own ((some (V.ref a), Sl.ow s o) :: C)) v x → Rp K (upd H a u) ok v x) → ObOk K (upd H a u) ok a o') :
    S3 K F ((some (.ref a), .ow s o') :: C) (upd H a u) := by
  have e : own ((some (V.ref a), Sl.ow s o) :: C) = a :: own C := by simp [own, ownC]
  have e' : own ((some (V.ref a), Sl.ow s o') :: C) = a :: own C := by simp [own, ownC]
  have hn := h.nd
  rw [e] at hn
  obtain ⟨h1, h2⟩ : ObOk K H (fun b => F.ok b ∧ b ∉ own ((some (V.ref a), Sl.ow s o) :: C)) a o ∧ SrcOk F a s := h.ok _ List.mem_cons_self
  have car : ∀ v x, Rp K H (fun b => F.ok b ∧ b ∉ own ((some (V.ref a), Sl.ow s o) :: C)) v x → Rp K (upd H a u) (fun b => F.ok b ∧ b ∉ a :: own C) v x := fun v x z => by
    rw [e] at z
    exact sq_keep h1.mut List.mem_cons_self z
  refine ⟨by rw [e']; exact hn, fun c hc => ?_, fun b w q k => ?_, fun k b q => ?_⟩
  · rw [e']
    rcases List.mem_cons.mp hc with z | hc2
    · subst z
      exact ⟨r _ car, h2⟩
    · refine (h.ok c (List.mem_cons_of_mem _ hc2)).imp car (fun b hb => ?_) fun _ _ z => z
      refine upd_ne ?_
      intro z
      subst z
      exact (List.nodup_cons.mp hn).1 (List.mem_flatMap.mpr ⟨c, hc2, hb⟩)
  · have z := h.kp b w q k
    by_cases hb : b = a
    · subst hb
      cases s with
      | none =>
        have : F.H0 b = none := h2
        rw [this] at q; cases q
      | some i => exact (k i h2).elim
    · rw [upd_ne hb]; exact z
  · by_cases hb : b = a
    · subst hb; exact ⟨u, upd_same, hu⟩
    · rw [upd_ne hb]; exact h.ar k b q
end
end L3

namespace L3
open PySem PySem.Spec PyProof.Rows L2

theorem zip_set {α β : Type} : ∀ (l : List α) (m : List β) (i : Nat) (a : α) (b : β), List.zip (l.set i a) (m.set i b) = (List.zip l m).set i (a, b)
  | [], _, _, _, _ => by simp
  | _ :: _, [], _, _, _ => by simp
  | x :: l, y :: m, 0, a, b => by simp
  | x :: l, y :: m, i + 1, a, b => by simp [zip_set l m i a b]

theorem perm_ex {α : Type} : ∀ (l : List α) (i : Nat) (h : i < l.length), l.Perm (l[i] :: l.eraseIdx i)
  | x :: l, 0, _ => List.Perm.refl _
  | x :: l, i + 1, h => by
    have := perm_ex l i (by simpa using h)
    exact (List.Perm.cons x this).trans (List.Perm.swap _ _ _)
theorem perm_set {α : Type} (a : α) : ∀ (l : List α) (i : Nat) (h : i < l.length), (l.set i a).Perm (a :: l.eraseIdx i)
  | x :: l, 0, _ => List.Perm.refl _
  | x :: l, i + 1, h => by
    have := perm_set a l i (by simpa using h)
    exact (List.Perm.cons x this).trans (List.Perm.swap _ _ _)
abbrev okO (F : F3) (C : List Cell) : Addr → Prop := fun a => F.ok a ∧ a ∉ own C
abbrev cellsOf (ρ : En) (σ : L2.St) (T : Tm) : List Cell := tCs T ++ List.zip σ ρ
section
variable {K : PySem.W.Frag} {F : F3} {ρ ρ' : En} {σ : L2.St} {T T' : Tm} {H H' : Hp} {v : V} {x : D} {r : Rs} {i : Nat} {c c' : Sl} {w w' : Option V}

theorem St3.perm (h : St3 K F ρ σ T H) (p : T.Perm T') : St3 K F ρ σ T' H :=
  ⟨h.len, h.s.perm ((List.Perm.flatMap_right tC1 p).append_right _), fun q hq => h.al q (p.mem_iff.mpr hq)⟩
theorem S3.drop {C1 C2 : List Cell} (h : S3 K F (C1 ++ C2) H) : S3 K F C2 H := by
  induction C1 with
  | nil => exact h
  | cons c C1 ih => exact ih h.tail
theorem St3.pop (h : St3 K F ρ σ ((v, r) :: T) H) : St3 K F ρ σ T H := by
  refine ⟨h.len, ?_, fun q hq => h.al q (List.mem_cons_of_mem _ hq)⟩
  have s := h.s
  have e : tCs ((v, r) :: T) ++ List.zip σ ρ = tC1 (v, r) ++ (tCs T ++ List.zip σ ρ) := by simp [tCs]
  rw [e] at s
  exact s.drop
theorem St3.drops {T1 : Tm} (h : St3 K F ρ σ (T1 ++ T) H) : St3 K F ρ σ T H := by
  induction T1 with
  | nil => exact h
  | cons p T1 ih => exact ih h.pop
theorem St3.push (h : St3 K F ρ σ T H) (q : Rp K H (okO F (cellsOf ρ σ T)) v x) : St3 K F ρ σ ((v, .d x) :: T) H := by
  refine ⟨h.len, ?_, fun q hq i e => ?_⟩
  · have e : tCs ((v, .d x) :: T) ++ List.zip σ ρ = (some v, Sl.d x) :: (tCs T ++ List.zip σ ρ) := by simp [tCs, tC1]
    rw [e]
    exact h.s.add q
  · rcases List.mem_cons.mp hq with z | z
    · subst z; cases e
    · exact h.al q z i e
theorem St3.pushAt (h : St3 K F ρ σ T H) (e : σ[i]? = some (some v)) : St3 K F ρ σ ((v, .at i) :: T) H := by
  refine ⟨h.len, ?_, fun q hq j ej => ?_⟩
  · have e : tCs ((v, .at i) :: T) ++ List.zip σ ρ = (tCs T ++ List.zip σ ρ) := by simp [tCs, tC1]
    rw [e]
    exact h.s
  · rcases List.mem_cons.mp hq with z | z
    · subst z; cases ej; exact e
    · exact h.al q z j ej
theorem St3.grow (h : St3 K F ρ σ T H) {p : Addr} (hp : H p = none) (u : HO) : St3 K F ρ σ T (upd H p u) := ⟨h.len, h.s.grow hp u, h.al⟩

/-- the cell of a slot, apart -/
theorem St3.slot (h : St3 K F ρ σ T H) (hi : ρ[i]? = some c) : ∃ w R, σ[i]? = some w ∧ (cellsOf ρ σ T).Perm ((w, c) :: (tCs T ++ R)) ∧ S3 K F ((w, c) :: (tCs T ++ R)) H ∧
    ∀ w' c', (tCs T ++ List.zip (σ.set i w') (ρ.set i c')).Perm ((w', c') :: (tCs T ++ R)) := by
  obtain ⟨hlt, e⟩ := List.getElem?_eq_some_iff.mp hi
  have hσ : i < σ.length := by rw [h.len]; exact hlt
  have hz : i < (List.zip σ ρ).length := by rw [List.length_zip]; omega
  have ez : (List.zip σ ρ)[i] = (σ[i], c) := by rw [List.getElem_zip, e]
  have p0 : (List.zip σ ρ).Perm ((σ[i], c) :: (List.zip σ ρ).eraseIdx i) := by
    rw [← ez]; exact perm_ex _ _ hz
  have p1 : (cellsOf ρ σ T).Perm ((σ[i], c) :: (tCs T ++ (List.zip σ ρ).eraseIdx i)) := (List.Perm.append_left _ p0).trans List.perm_middle
  refine ⟨σ[i], (List.zip σ ρ).eraseIdx i, by rw [List.getElem?_eq_getElem hσ], p1, h.s.perm p1, fun w' c' => ?_⟩
  rw [zip_set]
  exact (List.Perm.append_left _ (perm_set (w', c') _ _ hz)).trans List.perm_middle
theorem set_same {α : Type} {l : List α} {i : Nat} {a : α} (h : l[i]? = some a) : l.set i a = l := by
  obtain ⟨hl, e⟩ := List.getElem?_eq_some_iff.mp h
  rw [← e]; exact List.set_getElem_self hl
/-- data of a slot -/
theorem St3.rpSlot (h : St3 K F ρ σ T H) (hi : ρ[i]? = some (.d x)) : ∃ v, σ[i]? = some (some v) ∧ Rp K H (okO F (cellsOf ρ σ T)) v x := by
  obtain ⟨w, R, hw, p, s, _⟩ := h.slot hi
  cases w with
  | none => exact (s.ok _ List.mem_cons_self).elim
  | some v => exact ⟨v, hw, h.s.rp (p.mem_iff.mpr List.mem_cons_self)⟩
theorem St3.owSlot {s : Option Nat} {o : Ob} (h : St3 K F ρ σ T H) (hi : ρ[i]? = some (.ow s o)) : ∃ a, σ[i]? = some (some (.ref a)) ∧ ObOk K H (okO F (cellsOf ρ σ T)) a o ∧ a ∈ own (cellsOf ρ σ T) ∧ SrcOk F a s := by
  obtain ⟨w, R, hw, p, q, _⟩ := h.slot hi
  have z : CellOk K F (own (cellsOf ρ σ T)) H (w, .ow s o) := h.s.ok _ (p.mem_iff.mpr List.mem_cons_self)
  cases w with
  | none => exact z.elim
  | some v =>
    cases v with
    | ref a =>
      exact ⟨a, hw, z.1, List.mem_flatMap.mpr ⟨_, p.mem_iff.mpr List.mem_cons_self, by simp [ownC]⟩, z.2⟩
    | _ => exact z.elim
end

/-! ### views -/
def Vw (K : PySem.W.Frag) (H : Hp) (ok : Addr → Prop) (v : V) : D → Prop
  | .list xs => ∃ a vs, v = .ref a ∧ H a = some (.lst vs) ∧ RpL K H ok vs xs
  | x => Rp K H ok v x
theorem Rp.vw {K : PySem.W.Frag} {H : Hp} {ok : Addr → Prop} {v : V} {x : D} (h : Rp K H ok v x) : Vw K H ok v x := by
  cases x with
  | list xs =>
    cases h with
    | lst h1 h2 h3 => exact ⟨_, _, rfl, h1, h3⟩
  | _ => exact h
def viewO : Ob → Option D
  | .lst xs => some (.list xs)
  | _ => none
def viewR (ρ : En) : Rs → Option D
  | .d x => some x
  | .nw o => viewO o
  | .at i => match ρ[i]? with
    | some (.d x) => some x
    | some (.ow _ o) => viewO o
    | _ => none
theorem ObOk.vw {K : PySem.W.Frag} {H : Hp} {ok : Addr → Prop} {a : Addr} {o : Ob} {x : D} (h : ObOk K H ok a o) (e : viewO o = some x) : Vw K H ok (.ref a) x := by
  cases o with
  | lst ds =>
    cases e
    obtain ⟨vs, h1, h2⟩ := h
    exact ⟨a, vs, rfl, h1, h2⟩
  | _ => cases e
section
variable {K : PySem.W.Frag} {F : F3} {ρ ρ' : En} {σ : L2.St} {T T' : Tm} {H H' : Hp} {v : V} {x : D} {r : Rs} {i : Nat}
theorem St3.view (h : St3 K F ρ σ T H) (hm : (v, r) ∈ T) (e : viewR ρ r = some x) : Vw K H (okO F (cellsOf ρ σ T)) v x := by
  cases r with
  | d y =>
    cases e
    exact (h.s.rp (List.mem_append_left _ (List.mem_flatMap.mpr ⟨_, hm, by simp [tC1]⟩))).vw
  | nw o =>
    have z := h.s.ok (some v, .ow none o) (List.mem_append_left _ (List.mem_flatMap.mpr ⟨_, hm, by simp [tC1]⟩))
    cases v with
    | ref a => exact ObOk.vw z.1 e
    | _ => exact z.elim
  | «at» i =>
    have hv := h.al _ hm i rfl
    have e : (match ρ[i]? with
      | some (.d x) => some x
      | some (.ow _ o) => viewO o
      | _ => none) = some x := e
    split at e
    · rename_i y hy
      cases e
      obtain ⟨v', h1, h2⟩ := h.rpSlot hy
      rw [hv] at h1; cases h1
      exact h2.vw
    · rename_i s o hy
      obtain ⟨a, h1, h2, _⟩ := h.owSlot hy
      rw [hv] at h1; cases h1
      exact h2.vw e
    · cases e
end

/-! ### results -/
inductive Ret (K : PySem.W.Frag) (H : Hp) (ok : Addr → Prop) : V → D → Hp → Prop
  | same {v : V} {z : D} : Rp K H ok v z → (∀ xs, z ≠ .list xs) → Ret K H ok v z H
  | tup {p : Addr} {vs : List V} {zs : List D} : H p = none → RpL K H ok vs zs → Ret K H ok (.ref p) (.tuple zs) (upd H p (.tup vs))
  | lst {p : Addr} {vs : List V} {zs : List D} : H p = none → RpL K H ok vs zs → Ret K H ok (.ref p) (.list zs) (upd H p (.lst vs))
def mkR : D → Rs
  | .list xs => .nw (.lst xs)
  | z => .d z
theorem mkR_of {z : D} (h : ∀ xs, z ≠ .list xs) : mkR z = .d z := by
  cases z with
  | list xs => exact absurd rfl (h xs)
  | _ => rfl
section
variable {K : PySem.W.Frag} {F : F3} {ρ ρ' : En} {σ : L2.St} {T T' : Tm} {H H' : Hp} {v : V} {x z : D} {r : Rs} {i : Nat}
theorem St3.ret (h : St3 K F ρ σ T H) (q : Ret K H (okO F (cellsOf ρ σ T)) v z H') : St3 K F ρ σ ((v, mkR z) :: T) H' := by
  cases q with
  | same q hn => rw [mkR_of hn]; exact h.push q
  | @tup p vs zs hp q =>
    refine (h.grow hp (.tup vs)).push (.tup (.inl (.inl upd_same)) (rpL_map (fun v x z => ?_) q))
    exact rp_keep (fun b u e _ => by rw [upd_ne (ne_of_none e hp)]; exact e) (fun _ z => z) z
  | @lst p vs zs hp q =>
    refine ⟨h.len, ?_, fun q hq j e => ?_⟩
    · have e : tCs ((V.ref p, mkR (.list zs)) :: T) ++ List.zip σ ρ = (some (V.ref p), Sl.ow none (.lst zs)) :: (tCs T ++ List.zip σ ρ) := by simp [tCs, tC1, mkR]
      rw [e]
      exact h.s.newOb hp trivial fun ok hok => ⟨vs, upd_same, rpL_map hok q⟩
    · rcases List.mem_cons.mp hq with z | z
      · subst z; cases e
      · exact h.al q z j e
end

/-! ### expressions -/
abbrev TE3 := (Exc → Prop) → En → (Rs → En → Prop) → Prop
def Cv (K : PySem.W.Frag) (F : F3) (E : XK) : Prop :=
  (∀ C H', F.E3 (C, none) → Keeps F H' → E (.ref C) none H') ∧
  (∀ C fs d H' vs, F.E3 (C, some fs) → Keeps F H' → H' d = some (.xd vs) → Paired (fun (p : Str × V) (q : Str × D) => p.1 = q.1 ∧ Rp K H' F.ok p.2 q.2) vs fs → F.H0 d = none → E (.ref C) (some d) H')
def up (K : PySem.W.Frag) (E : XK) (t : TE3) : TE := fun σ H Q => ∃ (F : F3) (ρ : En) (T : Tm) (Q3 : Rs → En → Prop), St3 K F ρ σ T H ∧ Cv K F E ∧ t F.E3 ρ Q3 ∧
  ∀ r ρ' v H', Q3 r ρ' → St3 K F ρ' σ ((v, r) :: T) H' → Q v H'
abbrev PE3 (X : Cx) (E : XK) (e : Expr) (t : TE3) : Prop := PE X e (up X.K E t)
theorem peImp {X : Cx} {e : Expr} {t t' : TE} (h : PE X e t) (k : ∀ σ H Q, t' σ H Q → t σ H Q) : PE X e t' := ⟨fun pins s σ H Q I q => h.run pins s σ H Q I (k σ H Q q)⟩

def Do (f : Option Rs) (c : Prop) (Q : Rs → Prop) : Prop := ∃ z, f = some z ∧ c ∧ Q z

def slR (i : Nat) : Sl → Option Rs
  | .d x => some (.d x)
  | .ow _ _ => some (.at i)
  | .no => none
def getV (ρ : En) (i : Nat) : Option Rs := match ρ[i]? with
  | some c => slR i c
  | none => none
def t3var (i : Nat) : TE3 := fun _ ρ Q => Do (getV ρ i) True fun r => Q r ρ
def t3d (x : D) : TE3 := fun _ ρ Q => Q (.d x) ρ
section
variable {X : Cx} {E : XK} {pos : Pos}
theorem pv3 (i : Nat) {x : Str} (hN : X.N[i]? = some x := by rfl) (hv : Vis X.env.scope x := by first | exact Or.inl rfl | exact Or.inr (Or.inl rfl) | exact Or.inr (Or.inr rfl)) (hd : (x == ("__debug__" : Str)) = false := by decide)
    (hcd : (x == ("__classdict__" : Str)) = false := by decide) : PE3 X E (.Name x pos) (t3var i) := by
  refine peImp (pe_var hN hv hd hcd) fun σ H Q ⟨F, ρ, T, Q3, h, cv, ⟨z, e1, _, q⟩, k⟩ => ?_
  unfold getV at e1
  split at e1
  · rename_i c hc
    cases c with
    | no => cases e1
    | d y =>
      cases e1
      obtain ⟨v, hv, r⟩ := h.rpSlot hc
      exact ⟨v, hv, k _ _ _ _ q (h.push r)⟩
    | ow s o =>
      cases e1
      obtain ⟨a, hv, _⟩ := h.owSlot hc
      exact ⟨_, hv, k _ _ _ _ q (h.pushAt hv)⟩
  · cases e1
theorem p3const {e : Expr} {v : V} {x : D} (h : PE X e (tC v)) (r : ∀ H ok, Rp X.K H ok v x) : PE3 X E e (t3d x) :=
  peImp h fun σ H Q ⟨F, ρ, T, Q3, h, cv, q, k⟩ => k _ _ _ _ q (h.push (r _ _))
theorem p3int {i : Int} {j : Nat} : PE3 X E (.Constant (.int i) j pos) (t3d (.int i)) := p3const pe_int fun _ _ => .int i
theorem p3bl {b : Bool} {j : Nat} : PE3 X E (.Constant (.bool b) j pos) (t3d (.bool b)) := p3const pe_bl fun _ _ => .bl b
theorem p3non {j : Nat} : PE3 X E (.Constant .none j pos) (t3d .none) := p3const pe_non fun _ _ => .non
theorem p3str {x : Str} {j : Nat} : PE3 X E (.Constant (.str x) j pos) (t3d (.str x)) := p3const pe_str fun _ _ => .str x

/-! operators, by data -/
abbrev Fn2 := D → D → Option D
abbrev Cd2 := D → D → Prop
def r3 (K : PySem.W.Frag) (fn : Fn2) (cd : Cd2) : R2 := fun x y H Q => ∃ ok dx dy z, Vw K H ok x dx ∧ Vw K H ok y dy ∧ fn dx dy = some z ∧ cd dx dy ∧ ∀ v H', Ret K H ok v z H' → Q v H'
def opv (fn : Fn2) (ρ : En) (r1 r2 : Rs) : Option Rs := (viewR ρ r1).bind fun x => (viewR ρ r2).bind fun y => (fn x y).map mkR
def cdv (cd : Cd2) (ρ : En) (r1 r2 : Rs) : Prop := match viewR ρ r1, viewR ρ r2 with
  | some x, some y => cd x y
  | _, _ => False
def Op1 {α β : Type} (v : Option α) (f : α → Option β) (c : α → Prop) (Q : β → Prop) : Prop := ∃ a, v = some a ∧ ∃ z, f a = some z ∧ c a ∧ Q z
def Op2 {α γ β : Type} (v : Option (α × γ)) (f : α → γ → Option β) (c : α → γ → Prop) (Q : β → Prop) : Prop := ∃ a b, v = some (a, b) ∧ ∃ z, f a b = some z ∧ c a b ∧ Q z
def view2 (ρ : En) (r1 r2 : Rs) : Option (D × D) := (viewR ρ r1).bind fun x => (viewR ρ r2).map fun y => (x, y)
theorem view2_eq {ρ : En} {r1 r2 : Rs} {p : D × D} (h : view2 ρ r1 r2 = some p) : viewR ρ r1 = some p.1 ∧ viewR ρ r2 = some p.2 := by
  unfold view2 at h
  cases hx : viewR ρ r1 with
  | none => rw [hx] at h; cases h
  | some x =>
    cases hy : viewR ρ r2 with
    | none => simp [hx, hy] at h
    | some y => simp [hx, hy] at h; rw [← h]; exact ⟨rfl, rfl⟩
theorem op1_do {fn : Fn2} {cd : Cd2} {ρ : En} {r1 r2 : Rs} {Q : Rs → Prop} (h : Op2 (view2 ρ r1 r2) fn cd fun z => Q (mkR z)) : Do (opv fn ρ r1 r2) (cdv cd ρ r1 r2) Q := by
  obtain ⟨x, y, e, z, e1, e2, q⟩ := h
  obtain ⟨h1, h2⟩ := view2_eq e
  refine ⟨mkR z, ?_, ?_, q⟩
  · unfold opv; rw [h1, h2]; simp [e1]
  · unfold cdv; rw [h1, h2]; exact e2
def t3op (fn : Fn2) (cd : Cd2) (ta tb : TE3) : TE3 := fun E ρ Q => ta E ρ fun r1 ρ1 => tb E ρ1 fun r2 ρ2 => Op2 (view2 ρ2 r1 r2) fn cd fun z => Q (mkR z) ρ2
theorem up2 {ta tb : TE3} {K : PySem.W.Frag} {fn : Fn2} {cd : Cd2} {σ : L2.St} {H : Hp} {Q : VK} (h : up K E (t3op fn cd ta tb) σ H Q) : tOp (r3 K fn cd) (up K E ta) (up K E tb) σ H Q := by
  obtain ⟨F, ρ, T, Q3, h, cv, q, k⟩ := h
  refine ⟨F, ρ, T, _, h, cv, q, fun r1 ρ1 v1 H1 q1 h1 => ⟨F, ρ1, _, _, h1, cv, q1, fun r2 ρ2 v2 H2 q2 h2 => ?_⟩⟩
  obtain ⟨z, e1, e2, q3⟩ := op1_do (Q := fun z => Q3 z ρ2) q2
  unfold opv at e1
  cases hx : viewR ρ2 r1 with
  | none => rw [hx] at e1; cases e1
  | some x =>
    cases hy : viewR ρ2 r2 with
    | none => rw [hx, hy] at e1; cases e1
    | some y =>
      rw [hx, hy] at e1
      cases hf : fn x y with
      | none => simp [hf] at e1
      | some w =>
        simp [hf] at e1
        subst e1
        unfold cdv at e2
        rw [hx, hy] at e2
        refine ⟨_, x, y, w, h2.view (List.mem_cons_of_mem _ List.mem_cons_self) hx, h2.view List.mem_cons_self hy, hf, e2, fun v H' rt => ?_⟩
        have := h2.ret rt
        exact k _ _ _ _ q3 ((this.perm (T' := (v2, r2) :: (v1, r1) :: (v, mkR w) :: T) (by
          refine (List.Perm.swap _ _ _).trans (List.Perm.cons _ (List.Perm.swap _ _ _)))).pop.pop)
theorem p3op {a b : Expr} {op : Operator} {fn : Fn2} {cd : Cd2} {ta tb : TE3} (ho : OpR X (binaryOp op) (r3 X.K fn cd)) (ha : PE3 X E a ta) (hb : PE3 X E b tb) : PE3 X E (.BinOp a op b pos) (t3op fn cd ta tb) :=
  peImp (pe_op ho ha hb) fun _ _ _ h => up2 h
theorem p3cmp {a b : Expr} {op : CmpOp} {fn : Fn2} {cd : Cd2} {ta tb : TE3} (ho : OpR X (compareOp op) (r3 X.K fn cd)) (ha : PE3 X E a ta) (hb : PE3 X E b tb) (hm : behindInMarks op b = false) : PE3 X E (.Compare a [op] [b] pos) (t3op fn cd ta tb) :=
  peImp (pe_cmpR ho ha hb hm) fun _ _ _ h => up2 h
end
end L3

namespace L3
open PySem PySem.Spec PyProof.Rows L2
section
variable {X : Cx} {E : XK} {pos : Pos}
/-! ### reading of data -/
section
variable {K : PySem.W.Frag} {H : Hp} {ok : Addr → Prop}
mutual
theorem Rp.dp : ∀ (d : D) (v : V), d.canLay0 = true → Rp K H ok v d → Dp K H v d
  | .none, _, _, h => by cases h; exact .non
  | .bool b, _, _, h => by cases h; exact .bl b
  | .int i, _, _, h => by cases h; exact .int i
  | .str x, _, _, h => by cases h; exact .str x
  | .list ds, _, c, h => by
    cases h with
    | lst h1 h2 h3 => exact .lst (.inl (.inl h1)) (RpL.dp ds _ (by unfold PyData.canLay0 at c; exact c) h3)
  | .tuple ds, _, c, h => by
    cases h with
    | tup h1 h3 => exact .tup h1 (RpL.dp ds _ (by unfold PyData.canLay0 at c; exact c) h3)
  | .dict _, _, c, h => by unfold PyData.canLay0 at c; cases c
theorem RpL.dp : ∀ (ds : List D) (vs : List V), PyData.canLayAll0 ds = true → RpL K H ok vs ds → DpAll K H vs ds
  | [], _, _, h => by cases h; exact .nil
  | d :: ds, _, c, h => by
    unfold PyData.canLayAll0 at c
    rw [Bool.and_eq_true] at c
    cases h with
    | cons h1 h2 => exact .cons (Rp.dp d _ c.1 h1) (RpL.dp ds _ c.2 h2)
end
theorem Vw.dp {d : D} {v : V} (c : d.canLay0 = true) (h : Vw K H ok v d) : Dp K H v d := by
  cases d with
  | list xs =>
    obtain ⟨a, vs, rfl, h1, h2⟩ := h
    exact .lst (.inl (.inl h1)) (RpL.dp xs _ (by unfold PyData.canLay0 at c; exact c) h2)
  | _ => exact Rp.dp _ _ c h
theorem shaped_can {d : D} (h : SeqAt.shaped d = true) : d.canLay0 = true := by
  unfold SeqAt.shaped at h
  exact (Bool.and_eq_true _ _ ▸ h).1
theorem Rp.int_inv {v : V} {i : Int} (h : Rp K H ok v (.int i)) : v = .int i := by cases h; rfl
theorem Rp.str_inv {v : V} {i : Str} (h : Rp K H ok v (.str i)) : v = .str i := by cases h; rfl
theorem Rp.bl_inv {v : V} {i : Bool} (h : Rp K H ok v (.bool i)) : v = .bl i := by cases h; rfl
theorem Rp.non_inv {v : V} (h : Rp K H ok v .none) : v = .non := by cases h; rfl
theorem Rp.tup_inv {v : V} {ds : List D} (h : Rp K H ok v (.tuple ds)) : ∃ a vs, v = .ref a ∧ SqT K H a vs ∧ RpL K H ok vs ds := by
  cases h with
  | tup h1 h2 => exact ⟨_, _, rfl, h1, h2⟩
theorem Rp.scr_inv {v : V} {ns : List Int} (h : Rp K H ok v (scrD ns)) : ∃ a, v = .ref a ∧ SqS K H a (ns.map V.int) := by
  generalize e : scrD ns = d at h
  cases h with
  | scr q => rename_i a ms; rw [scrD_inj e]; exact ⟨a, rfl, q⟩
  | _ => cases e
def flatD : D → Bool
  | .none => true
  | .bool _ => true
  | .int _ => true
  | .str _ => true
  | _ => false
theorem flat_V {v : V} {d : D} (h : Rp K H ok v d) (f : flatD d = true) : flatV v = true := by
  cases h <;> first | rfl | cases f
theorem flat_eq {v w : V} {d e : D} (h : Rp K H ok v d) (f : flatD d = true) (h' : Rp K H ok w e) (f' : flatD e = true) : eqV v w = PyData.eqv d e := by
  cases h <;> first | (exact (Bool.false_ne_true f).elim) | (cases h' <;> first | (exact (Bool.false_ne_true f').elim) | (unfold PyData.eqv; rfl))
theorem flat_all : ∀ {vs : List V} {ds : List D}, RpL K H ok vs ds → ds.all flatD = true → vs.all flatV = true
  | _, _, .nil, _ => rfl
  | _, _, .cons r t, f => by
    rw [List.all_cons, Bool.and_eq_true] at f ⊢
    exact ⟨flat_V r f.1, flat_all t f.2⟩
theorem flat_in {v : V} {d : D} (h : Rp K H ok v d) (f : flatD d = true) : ∀ {vs : List V} {ds : List D}, RpL K H ok vs ds → ds.all flatD = true → inV v vs = ds.any fun y => PyData.eqv y d
  | _, _, .nil, _ => rfl
  | _, _, .cons r t, g => by
    rw [List.all_cons, Bool.and_eq_true] at g
    show (eqV _ v || inV v _) = _
    rw [flat_eq r g.1 h f, flat_in h f t g.2]
    rfl
theorem RpL.nil_iff {vs : List V} {ds : List D} (h : RpL K H ok vs ds) : vs = [] ↔ ds = [] := by
  cases h <;> simp
end

/-! ### arithmetic -/
def fnAdd : Fn2
  | .int a, .int b => some (.int (a + b))
  | .str a, .str b => some (.str (a ++ b))
  | .tuple a, .tuple b => some (.tuple (a ++ b))
  | .list a, .list b => some (.list (a ++ b))
  | .int a, .bool b => some (.int (a + b2i b))
  | _, _ => none
def cdAdd : Cd2
  | .int _, .int _ => True
  | .str a, .str b => a.length + b.length ≤ sizeLine
  | .tuple a, .tuple b => a.length + b.length ≤ sizeLine
  | .list a, .list b => a.length + b.length ≤ sizeLine
  | .int _, .bool _ => True
  | _, _ => False
theorem o_add : OpR X (binaryOp .Add) (r3 X.K fnAdd cdAdd) := by
  intro pins s σ H x y v u Q I rx ry ⟨ok, dx, dy, z, hx, hy, e, c, k⟩
  unfold fnAdd at e
  split at e
  · cases e
    cases Rp.int_inv hx
    cases Rp.int_inv hy
    exact op_add pins s σ H _ _ v u Q I rx ry ⟨_, _, rfl, rfl, k _ _ (.same (.int _) nofun)⟩
  · cases e
    cases Rp.str_inv hx
    cases Rp.str_inv hy
    exact op_add_str pins s σ H _ _ v u Q I rx ry ⟨_, _, rfl, rfl, c, k _ _ (.same (.str _) nofun)⟩
  · cases e
    obtain ⟨a, vs, rfl, h1, r1⟩ := Rp.tup_inv hx
    obtain ⟨b, ws, rfl, h2, r2⟩ := Rp.tup_inv hy
    rename_i ds es
    have hl : vs.length + ws.length ≤ sizeLine := by rw [r1.length, r2.length]; exact c
    refine op_catA pins s σ H _ _ v u Q I rx ry ⟨a, b, vs, ws, rfl, rfl, h1, h2, hl, fun z => ?_, fun z z2 => ?_, fun _ _ p hp => k _ _ (.tup hp (r1.append r2))⟩
    · have e := r1.nil_iff.mp z
      subst e
      exact k _ _ (.same (.tup h2 r2) nofun)
    · have e := r2.nil_iff.mp z2
      subst e
      rw [List.append_nil] at k
      exact k _ _ (.same (.tup h1 r1) nofun)
  · cases e
    obtain ⟨a, vs, rfl, h1, r1⟩ := hx
    obtain ⟨b, ws, rfl, h2, r2⟩ := hy
    exact op_cat pins s σ H _ _ v u Q I rx ry ⟨a, b, vs, ws, rfl, rfl, h1, h2, by rw [r1.length, r2.length]; exact c, fun p hp => k _ _ (.lst hp (r1.append r2))⟩
  · cases e
    cases Rp.int_inv hx
    cases Rp.bl_inv hy
    exact op_add_ib pins s σ H _ _ v u Q I rx ry ⟨_, _, rfl, rfl, k _ _ (.same (.int _) nofun)⟩
  · cases e
def fnI (g : Int → Int → Int) : Fn2
  | .int a, .int b => some (.int (g a b))
  | _, _ => none
def cdI (c : Int → Int → Prop) : Cd2
  | .int a, .int b => c a b
  | _, _ => False
theorem oI {op : Value → Value → Sem Value} {C : Int → Int → Prop} {g : Int → Int → Int} (ho : OpR X op (rI C fun i j => .int (g i j))) : OpR X op (r3 X.K (fnI g) (cdI C)) := by
  intro pins s σ H x y v u Q I rx ry ⟨ok, dx, dy, z, hx, hy, e, c, k⟩
  unfold fnI at e
  split at e
  · cases e
    cases Rp.int_inv hx
    cases Rp.int_inv hy
    exact ho pins s σ H _ _ v u Q I rx ry ⟨_, _, rfl, rfl, c, k _ _ (.same (.int _) nofun)⟩
  · cases e
theorem rI0_rI {op : Value → Value → Sem Value} {g : Int → Int → V} (ho : OpR X op (rI0 g)) : OpR X op (rI (fun _ _ => True) g) := fun pins s σ H x y v u Q I rx ry ⟨i, j, e1, e2, _, q⟩ => ho pins s σ H x y v u Q I rx ry ⟨i, j, e1, e2, q⟩
def fnSub : Fn2
  | .int a, .int b => some (.int (a - b))
  | _, _ => none
abbrev cdT : Cd2 := cdI fun _ _ => True
theorem o_sub : OpR X (binaryOp .Sub) (r3 X.K fnSub cdT) := oI (rI0_rI op_sub)
def fnMul : Fn2
  | .int a, .int b => some (.int (a * b))
  | _, _ => none
def cdMul : Cd2
  | .int a, .int b => CMul a b ∨ CMulX a b
  | _, _ => False
theorem op_mulA : OpR X (binaryOp .Mult) (rI (fun i j => CMul i j ∨ CMulX i j) fun i j => .int (i * j)) := fun pins s σ H x y v u Q I rx ry ⟨i, j, e1, e2, c, q⟩ => by
  rcases c with c | c
  · exact op_mul pins s σ H x y v u Q I rx ry ⟨i, j, e1, e2, c, q⟩
  · exact op_mulX pins s σ H x y v u Q I rx ry ⟨i, j, e1, e2, c, q⟩
theorem o_mul : OpR X (binaryOp .Mult) (r3 X.K fnMul cdMul) := oI op_mulA
def fnDiv : Fn2
  | .int a, .int b => some (.int (a / b))
  | _, _ => none
def cdDiv : Cd2
  | .int a, .int b => CDiv a b ∨ CDivW a b
  | _, _ => False
theorem op_fdivA : OpR X (binaryOp .FloorDiv) (rI (fun i j => CDiv i j ∨ CDivW i j) fun i j => .int (i / j)) := fun pins s σ H x y v u Q I rx ry ⟨i, j, e1, e2, c, q⟩ => by
  rcases c with c | c
  · exact op_fdiv pins s σ H x y v u Q I rx ry ⟨i, j, e1, e2, c, q⟩
  · exact op_fdivW pins s σ H x y v u Q I rx ry ⟨i, j, e1, e2, c, q⟩
theorem o_div : OpR X (binaryOp .FloorDiv) (r3 X.K fnDiv cdDiv) := oI op_fdivA
def fnMod : Fn2
  | .int a, .int b => some (.int (a % b))
  | _, _ => none
def cdMod : Cd2
  | .int _, .int b => 0 < b
  | _, _ => False
theorem o_mod : OpR X (binaryOp .Mod) (r3 X.K fnMod cdMod) := oI op_mod
def fnPow : Fn2
  | .int a, .int b => some (.int (a ^ b.toNat))
  | _, _ => none
def cdPow : Cd2
  | .int a, .int b => CPow a b
  | _, _ => False
theorem o_pow : OpR X (binaryOp .Pow) (r3 X.K fnPow cdPow) := oI op_pow

/-! ### comparisons -/
def eqD : D → D → Bool
  | .int a, .int b => decide (a = b)
  | .str a, .str b => decide (a = b)
  | .bool a, .bool b => decide (a = b)
  | x, y => PyData.eqv x y
def cdEq : Cd2
  | .int _, .int _ => True
  | .str _, .str _ => True
  | .bool _, .bool _ => True
  | x, y => SeqAt.shaped x = true ∧ SeqAt.shaped y = true
def fnEq : Fn2 := fun x y => some (.bool (eqD x y))
def fnNe : Fn2 := fun x y => some (.bool (!eqD x y))
theorem o_eq (hu : X.A.units + 64 < cLine) : OpR X (compareOp .Eq) (r3 X.K fnEq cdEq) := by
  intro pins s σ H x y v u Q I rx ry ⟨ok, dx, dy, z, hx, hy, e, c, k⟩
  cases e
  unfold cdEq at c
  split at c
  · cases Rp.int_inv hx
    cases Rp.int_inv hy
    refine op_eq pins s σ H _ _ v u Q I rx ry ⟨rfl, ?_⟩
    rw [dec_int, ← dec_int]
    have := k _ _ (.same (.bl _) nofun)
    simpa [eqD] using this
  · cases Rp.str_inv hx
    cases Rp.str_inv hy
    refine op_eq pins s σ H _ _ v u Q I rx ry ⟨rfl, ?_⟩
    have := k _ _ (.same (.bl _) nofun)
    simpa [eqD] using this
  · cases Rp.bl_inv hx
    cases Rp.bl_inv hy
    refine op_eq pins s σ H _ _ v u Q I rx ry ⟨rfl, ?_⟩
    have := k _ _ (.same (.bl _) nofun)
    simpa [eqD] using this
  · rename_i n1 n2 n3
    refine op_eqD hu pins s σ H _ _ v u Q I rx ry ⟨dx, dy, hx.dp (shaped_can c.1), hy.dp (shaped_can c.2), c.1, c.2, ?_⟩
    have := k _ _ (.same (.bl _) nofun)
    have e : eqD dx dy = PyData.eqv dx dy := by
      unfold eqD
      split
      · exact (n1 _ _ rfl rfl).elim
      · exact (n2 _ _ rfl rfl).elim
      · exact (n3 _ _ rfl rfl).elim
      · rfl
    rw [← e]
    exact this
theorem o_ne (hu : X.A.units + 64 < cLine) : OpR X (compareOp .NotEq) (r3 X.K fnNe cdEq) := by
  intro pins s σ H x y v u Q I rx ry ⟨ok, dx, dy, z, hx, hy, e, c, k⟩
  cases e
  unfold cdEq at c
  split at c
  · cases Rp.int_inv hx
    cases Rp.int_inv hy
    refine op_ne pins s σ H _ _ v u Q I rx ry ⟨rfl, ?_⟩
    have := k _ _ (.same (.bl _) nofun)
    simpa [eqD] using this
  · cases Rp.str_inv hx
    cases Rp.str_inv hy
    refine op_ne pins s σ H _ _ v u Q I rx ry ⟨rfl, ?_⟩
    have := k _ _ (.same (.bl _) nofun)
    simpa [eqD] using this
  · cases Rp.bl_inv hx
    cases Rp.bl_inv hy
    refine op_ne pins s σ H _ _ v u Q I rx ry ⟨rfl, ?_⟩
    have := k _ _ (.same (.bl _) nofun)
    simpa [eqD] using this
  · rename_i n1 n2 n3
    refine op_neD hu pins s σ H _ _ v u Q I rx ry ⟨dx, dy, hx.dp (shaped_can c.1), hy.dp (shaped_can c.2), c.1, c.2, ?_⟩
    have := k _ _ (.same (.bl _) nofun)
    have e : eqD dx dy = PyData.eqv dx dy := by
      unfold eqD
      split
      · exact (n1 _ _ rfl rfl).elim
      · exact (n2 _ _ rfl rfl).elim
      · exact (n3 _ _ rfl rfl).elim
      · rfl
    rw [← e]
    exact this
def fnC (g : Int → Int → Bool) (h : List Nat → List Nat → Bool) : Fn2
  | .int a, .int b => some (.bool (g a b))
  | .str a, .str b => some (.bool (h a.cps.toList b.cps.toList))
  | _, _ => none
abbrev cdN : Cd2 := fun _ _ => True
theorem oC {op : Value → Value → Sem Value} {g : Int → Int → Bool} {h : List Nat → List Nat → Bool} (ho : OpR X op (rI0 fun i j => .bl (g i j)))
    (hs : OpR X op (fun x y H Q => ∃ i j, x = .str i ∧ y = .str j ∧ Q (.bl (h i.cps.toList j.cps.toList)) H)) : OpR X op (r3 X.K (fnC g h) cdN) := by
  intro pins s σ H x y v u Q I rx ry ⟨ok, dx, dy, z, hx, hy, e, c, k⟩
  unfold fnC at e
  split at e
  · cases e
    cases Rp.int_inv hx
    cases Rp.int_inv hy
    exact ho pins s σ H _ _ v u Q I rx ry ⟨_, _, rfl, rfl, k _ _ (.same (.bl _) nofun)⟩
  · cases e
    cases Rp.str_inv hx
    cases Rp.str_inv hy
    exact hs pins s σ H _ _ v u Q I rx ry ⟨_, _, rfl, rfl, k _ _ (.same (.bl _) nofun)⟩
  · cases e
def fnLt : Fn2
  | .int a, .int b => some (.bool (decide (a < b)))
  | .str a, .str b => some (.bool (decide (a.cps.toList < b.cps.toList)))
  | _, _ => none
def fnLe : Fn2
  | .int a, .int b => some (.bool (decide (a ≤ b)))
  | .str a, .str b => some (.bool (!decide (b.cps.toList < a.cps.toList)))
  | _, _ => none
def fnGt : Fn2
  | .int a, .int b => some (.bool (decide (b < a)))
  | .str a, .str b => some (.bool (decide (b.cps.toList < a.cps.toList)))
  | _, _ => none
def fnGe : Fn2
  | .int a, .int b => some (.bool (decide (b ≤ a)))
  | .str a, .str b => some (.bool (!decide (a.cps.toList < b.cps.toList)))
  | _, _ => none
theorem o_lt : OpR X (compareOp .Lt) (r3 X.K fnLt cdN) := by
  have e : fnLt = fnC (fun a b => decide (a < b)) (fun a b => decide (a < b)) := by funext a b; cases a <;> cases b <;> rfl
  rw [e]
  exact oC op_lt op_lt_str
theorem o_le : OpR X (compareOp .LtE) (r3 X.K fnLe cdN) := by
  have e : fnLe = fnC (fun a b => decide (a ≤ b)) (fun a b => !decide (b < a)) := by funext a b; cases a <;> cases b <;> rfl
  rw [e]
  exact oC op_le op_le_str
theorem o_gt : OpR X (compareOp .Gt) (r3 X.K fnGt cdN) := by
  have e : fnGt = fnC (fun a b => decide (b < a)) (fun a b => decide (b < a)) := by funext a b; cases a <;> cases b <;> rfl
  rw [e]
  exact oC op_gt op_gt_str
theorem o_ge : OpR X (compareOp .GtE) (r3 X.K fnGe cdN) := by
  have e : fnGe = fnC (fun a b => decide (b ≤ a)) (fun a b => !decide (a < b)) := by funext a b; cases a <;> cases b <;> rfl
  rw [e]
  exact oC op_ge op_ge_str
def isNone : D → Bool
  | .none => true
  | _ => false
def fnIs : Fn2
  | x, .none => some (.bool (isNone x))
  | _, _ => none
def fnIsN : Fn2
  | x, .none => some (.bool (!isNone x))
  | _, _ => none
theorem isNone_V {K : PySem.W.Frag} {H : Hp} {ok : Addr → Prop} {v : V} {x : D} (h : Vw K H ok v x) : decide (v = .non) = isNone x := by
  cases x with
  | list xs => obtain ⟨a, vs, rfl, _⟩ := h; rfl
  | _ => cases h <;> rfl
theorem o_is : OpR X (compareOp .Is) (r3 X.K fnIs cdN) := by
  intro pins s σ H x y v u Q I rx ry ⟨ok, dx, dy, z, hx, hy, e, c, k⟩
  unfold fnIs at e
  split at e
  · cases e
    cases Rp.non_inv hy
    refine op_isN pins s σ H _ _ v u Q I rx ry ⟨rfl, ?_⟩
    rw [isNone_V hx]
    exact k _ _ (.same (.bl _) nofun)
  · cases e
theorem o_isN : OpR X (compareOp .IsNot) (r3 X.K fnIsN cdN) := by
  intro pins s σ H x y v u Q I rx ry ⟨ok, dx, dy, z, hx, hy, e, c, k⟩
  unfold fnIsN at e
  split at e
  · cases e
    cases Rp.non_inv hy
    refine op_notN pins s σ H _ _ v u Q I rx ry ⟨rfl, ?_⟩
    rw [isNone_V hx]
    exact k _ _ (.same (.bl _) nofun)
  · cases e
theorem str_of {a : Str} {l : List Nat} (h : a.cps.toList = l) : a = ⟨l.toArray⟩ := by
  obtain ⟨c⟩ := a
  rw [← h]
/-- in -/
def inD (x : D) : D → Option Bool
  | .str b => match x with
    | .str a => match a.cps.toList with
      | [c] => some (decide (c ∈ b.cps.toList))
      | _ => none
    | _ => none
  | .list ds => some (ds.any fun y => PyData.eqv y x)
  | .tuple ds => some (ds.any fun y => PyData.eqv y x)
  | _ => none
def cdIn : Cd2
  | _, .str _ => True
  | x, .list ds => (flatD x = true ∧ ds.all flatD = true) ∨ (SeqAt.shaped x = true ∧ SeqAt.shaped (.list ds) = true)
  | x, .tuple ds => flatD x = true ∧ ds.all flatD = true
  | _, _ => False
def fnIn : Fn2 := fun x y => (inD x y).map .bool
def fnNotIn : Fn2 := fun x y => (inD x y).map fun b => .bool (!b)
theorem flat_rp {K : PySem.W.Frag} {H : Hp} {ok : Addr → Prop} {v : V} {x : D} (h : Vw K H ok v x) (f : flatD x = true) : Rp K H ok v x := by
  cases x with
  | list xs => cases f
  | _ => exact h
theorem o_in (hu : X.A.units + 65 < cLine) : OpR X (compareOp .In) (r3 X.K fnIn cdIn) := by
  intro pins s σ H x y v u Q I rx ry ⟨ok, dx, dy, z, hx, hy, e, c, k⟩
  unfold fnIn inD at e
  split at e
  · split at e
    · split at e
      · rename_i a _ ch hc
        cases e
        cases Rp.str_inv hx
        cases Rp.str_inv hy
        obtain rfl : a = ⟨#[ch]⟩ := str_of hc
        exact op_in_sign pins s σ H _ _ v u Q I rx ry ⟨ch, _, rfl, rfl, k _ _ (.same (.bl _) nofun)⟩
      · cases e
    · cases e
  · cases e
    rename_i ds
    rcases c with c | c
    · obtain ⟨a, vs, rfl, h1, r1⟩ := hy
      have hx' := flat_rp hx c.1
      refine op_in_seq pins s σ H _ _ v u Q I rx ry ⟨a, vs, rfl, .inl (.inl (.inl h1)), flat_V hx' c.1, flat_all r1 c.2, ?_⟩
      rw [flat_in hx' c.1 r1 c.2]
      exact k _ _ (.same (.bl _) nofun)
    · exact op_inD hu pins s σ H _ _ v u Q I rx ry ⟨dx, ds, hx.dp (shaped_can c.1), hy.dp (shaped_can c.2), c.1, c.2, k _ _ (.same (.bl _) nofun)⟩
  · cases e
    rename_i ds
    obtain ⟨a, vs, rfl, h1, r1⟩ := Rp.tup_inv hy
    have hx' := flat_rp hx c.1
    refine op_in_seq pins s σ H _ _ v u Q I rx ry ⟨a, vs, rfl, .inr h1, flat_V hx' c.1, flat_all r1 c.2, ?_⟩
    rw [flat_in hx' c.1 r1 c.2]
    exact k _ _ (.same (.bl _) nofun)
  · cases e
theorem o_notIn (hu : X.A.units + 65 < cLine) : OpR X (compareOp .NotIn) (r3 X.K fnNotIn cdIn) := by
  intro pins s σ H x y v u Q I rx ry ⟨ok, dx, dy, z, hx, hy, e, c, k⟩
  unfold fnNotIn inD at e
  split at e
  · split at e
    · split at e
      · rename_i a _ ch hc
        cases e
        cases Rp.str_inv hx
        cases Rp.str_inv hy
        obtain rfl : a = ⟨#[ch]⟩ := str_of hc
        exact op_notIn_sign pins s σ H _ _ v u Q I rx ry ⟨ch, _, rfl, rfl, k _ _ (.same (.bl _) nofun)⟩
      · cases e
    · cases e
  · cases e
    rename_i ds
    rcases c with c | c
    · obtain ⟨a, vs, rfl, h1, r1⟩ := hy
      have hx' := flat_rp hx c.1
      refine op_notIn_seq pins s σ H _ _ v u Q I rx ry ⟨a, vs, rfl, .inl (.inl (.inl h1)), flat_V hx' c.1, flat_all r1 c.2, ?_⟩
      rw [flat_in hx' c.1 r1 c.2]
      exact k _ _ (.same (.bl _) nofun)
    · exact op_notInD hu pins s σ H _ _ v u Q I rx ry ⟨dx, ds, hx.dp (shaped_can c.1), hy.dp (shaped_can c.2), c.1, c.2, k _ _ (.same (.bl _) nofun)⟩
  · cases e
    rename_i ds
    obtain ⟨a, vs, rfl, h1, r1⟩ := Rp.tup_inv hy
    have hx' := flat_rp hx c.1
    refine op_notIn_seq pins s σ H _ _ v u Q I rx ry ⟨a, vs, rfl, .inr h1, flat_V hx' c.1, flat_all r1 c.2, ?_⟩
    rw [flat_in hx' c.1 r1 c.2]
    exact k _ _ (.same (.bl _) nofun)
  · cases e
end
end L3

namespace L3
open PySem PySem.Spec PyProof.Rows L2
section
variable {X : Cx} {E : XK} {pos : Pos}
/-! ### a[i] -/
def fnIx : Fn2
  | .list xs, .int i => atI xs i
  | .tuple xs, .int i => atI xs i
  | .str z, .int i => (atI z.cps.toList i).map fun c => .str ⟨#[c]⟩
  | .dict kvs, .int i => (atI kvs i).map fun p => p.1
  | _, _ => none
def cdIx : Cd2
  | .str z, .int i => z.length ≤ sizeLine
  | _, _ => True
def r3d (K : PySem.W.Frag) (fn : Fn2) (cd : Cd2) : R2 := fun x y H Q => ∃ ok dx dy z, Vw K H ok x dx ∧ Vw K H ok y dy ∧ fn dx dy = some z ∧ cd dx dy ∧ ∀ v, Rp K H ok v z → Q v H
theorem atI_map {α β : Type} {f : α → β} {xs : List α} {i : Int} : atI (xs.map f) i = (atI xs i).map f := by
  unfold atI
  rw [List.length_map]
  cases ixN xs.length i with
  | none => rfl
  | some j => simp
theorem rpl_at {K : PySem.W.Frag} {H : Hp} {ok : Addr → Prop} {vs : List V} {ds : List D} {i : Int} {z : D} (h : RpL K H ok vs ds) (e : atI ds i = some z) : ∃ v, atI vs i = some v ∧ Rp K H ok v z := by
  unfold atI at e ⊢
  rw [h.length]
  cases hj : ixN ds.length i with
  | none => rw [hj] at e; cases e
  | some j =>
    rw [hj] at e
    exact h.get e
theorem x_ix : IxR X (r3d X.K fnIx cdIx) := by
  intro value slice pins s σ H x y v u Q I rx ry ⟨ok, dx, dy, z, hx, hy, e, c, k⟩ hs
  unfold fnIx at e
  split at e
  · cases Rp.int_inv hy
    obtain ⟨a, vs, rfl, h1, r1⟩ := hx
    obtain ⟨w, ew, rw⟩ := rpl_at r1 e
    exact ix_list value slice pins s σ H _ _ v u Q I rx ry ⟨a, vs, _, w, rfl, rfl, .inl (.inl h1), ew, k _ rw⟩ hs
  · cases Rp.int_inv hy
    obtain ⟨a, vs, rfl, h1, r1⟩ := Rp.tup_inv hx
    obtain ⟨w, ew, rw⟩ := rpl_at r1 e
    exact ix_tup value slice pins s σ H _ _ v u Q I rx ry ⟨a, vs, _, w, rfl, rfl, h1, ew, k _ rw⟩ hs
  · cases Rp.int_inv hy
    cases Rp.str_inv hx
    rename_i zs i
    cases hz : atI zs.cps.toList i with
    | none => rw [hz] at e; cases e
    | some c' =>
      rw [hz] at e
      cases e
      exact ix_str value slice pins s σ H _ _ v u Q I rx ry ⟨_, _, c', rfl, rfl, c, hz, k _ (.str _)⟩ hs
  · rename_i kvs i
    cases Rp.int_inv hy
    generalize ed : PyData.dict kvs = dd at hx
    have hx' : Rp X.K H ok x dd := by subst ed; exact hx
    cases hx' with
    | scr q =>
      rename_i a ns
      have ek : kvs = ns.map fun n => (.int n, .none) := PyData.dict.inj ed
      subst ek
      rw [atI_map] at e
      cases hz : atI ns i with
      | none => rw [hz] at e; cases e
      | some n =>
        rw [hz] at e
        cases e
        exact ix_list value slice pins s σ H _ _ v u Q I rx ry ⟨a, ns.map V.int, _, .int n, rfl, rfl, q.sq, by rw [atI_map, hz]; rfl, k _ (.int n)⟩ hs
    | _ => cases ed
  · cases e
def opd (fn : Fn2) (ρ : En) (r1 r2 : Rs) : Option Rs := (viewR ρ r1).bind fun x => (viewR ρ r2).bind fun y => (fn x y).map Rs.d
theorem opd_do {fn : Fn2} {cd : Cd2} {ρ : En} {r1 r2 : Rs} {Q : Rs → Prop} (h : Op2 (view2 ρ r1 r2) fn cd fun z => Q (.d z)) : Do (opd fn ρ r1 r2) (cdv cd ρ r1 r2) Q := by
  obtain ⟨x, y, e, z, e1, e2, q⟩ := h
  obtain ⟨h1, h2⟩ := view2_eq e
  refine ⟨.d z, ?_, ?_, q⟩
  · unfold opd; rw [h1, h2]; simp [e1]
  · unfold cdv; rw [h1, h2]; exact e2
def t3opd (fn : Fn2) (cd : Cd2) (ta tb : TE3) : TE3 := fun E ρ Q => ta E ρ fun r1 ρ1 => tb E ρ1 fun r2 ρ2 => Op2 (view2 ρ2 r1 r2) fn cd fun z => Q (.d z) ρ2
abbrev t3ix : TE3 → TE3 → TE3 := t3opd fnIx cdIx
theorem p3ix {a b : Expr} {ta tb : TE3} (ha : PE3 X E a ta) (hb : PE3 X E b tb) (hs : PlainIx b) : PE3 X E (.Subscript a b pos) (t3ix ta tb) := by
  refine peImp (pe_ix x_ix ha hb hs) fun σ H Q ⟨F, ρ, T, Q3, h, cv, q, k⟩ => ?_
  refine ⟨F, ρ, T, _, h, cv, q, fun r1 ρ1 v1 H1 q1 h1 => ⟨F, ρ1, _, _, h1, cv, q1, fun r2 ρ2 v2 H2 q2 h2 => ?_⟩⟩
  obtain ⟨z, e1, e2, q3⟩ := opd_do (Q := fun z => Q3 z ρ2) q2
  unfold opd at e1
  cases hx : viewR ρ2 r1 with
  | none => rw [hx] at e1; cases e1
  | some x =>
    cases hy : viewR ρ2 r2 with
    | none => rw [hx, hy] at e1; cases e1
    | some y =>
      rw [hx, hy] at e1
      cases hf : fnIx x y with
      | none => simp [hf] at e1
      | some w =>
        simp [hf] at e1
        subst e1
        unfold cdv at e2
        rw [hx, hy] at e2
        refine ⟨_, x, y, w, h2.view (List.mem_cons_of_mem _ List.mem_cons_self) hx, h2.view List.mem_cons_self hy, hf, e2, fun v rp => ?_⟩
        exact k _ _ _ _ q3 (((h2.push rp).perm ((List.Perm.swap _ _ _).trans (List.Perm.cons _ (List.Perm.swap _ _ _)))).pop.pop)

/-! ### slices -/
abbrev TO3 := (Exc → Prop) → En → (Option Int → En → Prop) → Prop
def upO (K : PySem.W.Frag) (E : XK) (t : TO3) : TO := fun σ H Q => ∃ (F : F3) (ρ : En) (T : Tm) (Q3 : Option Int → En → Prop), St3 K F ρ σ T H ∧ Cv K F E ∧ t F.E3 ρ Q3 ∧
  ∀ o ρ' H', Q3 o ρ' → St3 K F ρ' σ T H' → Q o H'
abbrev PO3 (X : Cx) (E : XK) (e : Option Expr) (t : TO3) : Prop := PO X e (upO X.K E t)
theorem poImp {e : Option Expr} {t t' : TO} (h : PO X e t) (k : ∀ σ H Q, t' σ H Q → t σ H Q) : PO X e t' := ⟨fun pins s σ H Q I q => h.run pins s σ H Q I (k σ H Q q)⟩
def t3noPart : TO3 := fun _ ρ Q => Q none ρ
def t3part (t : TE3) : TO3 := fun E ρ Q => t E ρ fun r ρ' => ∃ i, r = .d (.int i) ∧ Q (some i) ρ'
theorem o3none : PO3 X E none t3noPart := poImp po_none fun σ H Q ⟨F, ρ, T, Q3, h, cv, q, k⟩ => k _ _ _ q h
theorem o3some {e : Expr} {t : TE3} (h : PE3 X E e t) : PO3 X E (some e) (t3part t) := poImp (po_some h) fun σ H Q ⟨F, ρ, T, Q3, h, cv, q, k⟩ =>
  ⟨F, ρ, T, _, h, cv, q, fun r ρ' v H' ⟨i, e, q'⟩ h' => by
    subst e
    cases Rp.int_inv (h'.view List.mem_cons_self rfl)
    exact ⟨i, rfl, k _ _ _ q' h'.pop⟩⟩
def cutL {α : Type} (xs : List α) (lo hi : Option Int) : List α := (xs.drop (HT.sIx xs.length 0 lo)).take (HT.sIx xs.length xs.length hi - HT.sIx xs.length 0 lo)
theorem cutL_all {α : Type} {xs : List α} {lo hi : Option Int} (h1 : HT.sIx xs.length 0 lo = 0) (h2 : HT.sIx xs.length xs.length hi = xs.length) : cutL xs lo hi = xs := by
  unfold cutL
  rw [h1, h2]
  simp
@[irreducible] def fnSl (x : D) (lo hi : Option Int) : Option D := match x with
  | .list xs => some (.list (cutL xs lo hi))
  | .tuple xs => some (.tuple (cutL xs lo hi))
  | .str z => some (.str ⟨(cutL z.cps.toList lo hi).toArray⟩)
  | _ => none
def cdSl : D → Prop
  | .str z => z.length ≤ sizeLine
  | _ => True
def rSl3 (K : PySem.W.Frag) : V → Option Int → Option Int → Hp → VK → Prop := fun x lo hi H Q => ∃ ok dx z, Vw K H ok x dx ∧ fnSl dx lo hi = some z ∧ cdSl dx ∧ ∀ v H', Ret K H ok v z H' → Q v H'
theorem rpl_cut {K : PySem.W.Frag} {H : Hp} {ok : Addr → Prop} {vs : List V} {ds : List D} {lo hi : Option Int} (h : RpL K H ok vs ds) : RpL K H ok (cutV vs lo hi) (cutL ds lo hi) := by
  unfold cutV cutL
  rw [h.length]
  exact (h.drop _).take _
theorem slR3 : SlR X (rSl3 X.K) := by
  intro pins s σ H x v vl vu lo hi sl Q I rx hs pl pu ⟨ok, dx, z, hx, e, c, k⟩
  unfold fnSl at e
  split at e
  · cases e
    obtain ⟨a, vs, rfl, h1, r1⟩ := hx
    exact sl_list pins s σ H _ v vl vu lo hi sl Q I rx hs pl pu ⟨a, vs, rfl, .inl (.inl h1), fun p hp => k _ _ (.lst hp (rpl_cut r1))⟩
  · cases e
    obtain ⟨a, vs, rfl, h1, r1⟩ := Rp.tup_inv hx
    refine sl_tupA pins s σ H _ v vl vu lo hi sl Q I rx hs pl pu ⟨a, vs, rfl, h1, fun w => ?_, fun _ p hp => k _ _ (.tup hp (rpl_cut r1))⟩
    refine k _ _ (.same (.tup h1 ?_) nofun)
    rw [r1.length] at w
    rw [cutL_all w.1 w.2]
    exact r1
  · cases e
    cases Rp.str_inv hx
    refine sl_str pins s σ H _ v vl vu lo hi sl Q I rx hs pl pu ⟨_, rfl, c, ?_⟩
    have := k _ _ (.same (.str _) nofun)
    unfold cutS
    simpa [cutL, Str.length] using this
  · cases e
def t3sl (te : TE3) (tl th : TO3) : TE3 := fun E ρ Q => te E ρ fun r ρ1 => tl E ρ1 fun lo ρ2 => th E ρ2 fun hi ρ3 => Op1 (viewR ρ3 r) (fun x => fnSl x lo hi) cdSl fun z => Q (mkR z) ρ3
theorem p3sl {e : Expr} {lo hi : Option Expr} {p2 : Pos} {te : TE3} {tl th : TO3} (he : PE3 X E e te) (hl : PO3 X E lo tl) (hh : PO3 X E hi th) : PE3 X E (.Subscript e (.Slice lo hi none p2) pos) (t3sl te tl th) := by
  refine peImp (pe_slice slR3 he hl hh) fun σ H Q ⟨F, ρ, T, Q3, h, cv, q, k⟩ => ?_
  refine ⟨F, ρ, T, _, h, cv, q, fun r1 ρ1 v1 H1 q1 h1 => ⟨F, ρ1, _, _, h1, cv, q1, fun lo ρ2 H2 q2 h2 => ⟨F, ρ2, _, _, h2, cv, q2, fun hi ρ3 H3 q3 h3 => ?_⟩⟩⟩
  obtain ⟨x, hx, w, hf, e2, q4⟩ := q3
  refine ⟨_, x, w, h3.view List.mem_cons_self hx, hf, e2, fun v H' rt => ?_⟩
  exact k _ _ _ _ q4 (((h3.ret rt).perm (List.Perm.swap _ _ _)).pop)

/-! ### tests -/
abbrev TT3 := (Exc → Prop) → En → (Bool → En → Prop) → Prop
def upT (K : PySem.W.Frag) (E : XK) (t : TT3) : TT := fun σ H Q => ∃ (F : F3) (ρ : En) (T : Tm) (Q3 : Bool → En → Prop), St3 K F ρ σ T H ∧ Cv K F E ∧ t F.E3 ρ Q3 ∧
  ∀ b ρ' H', Q3 b ρ' → St3 K F ρ' σ T H' → Q b H'
abbrev PT3 (X : Cx) (E : XK) (e : Expr) (t : TT3) : Prop := PT X e (upT X.K E t)
abbrev PW3 (X : Cx) (E : XK) (e : Expr) (t : TT3) : Prop := PW X e (upT X.K E t)
theorem ptImp {e : Expr} {t t' : TT} (h : PT X e t) (k : ∀ σ H Q, t' σ H Q → t σ H Q) : PT X e t' := ⟨fun pins s σ H Q I q => h.run pins s σ H Q I (k σ H Q q)⟩
theorem pwImp {e : Expr} {t t' : TT} (h : PW X e t) (k : ∀ σ H Q, t' σ H Q → t σ H Q) : PW X e t' := ⟨fun wh pins s σ H Q I q => h.run wh pins s σ H Q I (k σ H Q q)⟩
def asB : Rs → Option Bool
  | .d (.bool b) => some b
  | _ => none
theorem asB_eq {r : Rs} {b : Bool} (h : asB r = some b) : r = .d (.bool b) := by
  unfold asB at h
  split at h
  · cases h; rfl
  · cases h
def t3T (te : TE3) : TT3 := fun E ρ Q => te E ρ fun r ρ' => ∃ b, asB r = some b ∧ Q b ρ'
theorem upTe {K : PySem.W.Frag} {te : TE3} {σ : L2.St} {H : Hp} {Q : Bool → Hp → Prop} (h : upT K E (t3T te) σ H Q) : up K E te σ H (fun x H' => ∃ k, x = .bl k ∧ Q k H') := by
  obtain ⟨F, ρ, T, Q3, h, cv, q, k⟩ := h
  refine ⟨F, ρ, T, _, h, cv, q, fun r ρ' v H' ⟨b, e, q'⟩ h' => ?_⟩
  have e := asB_eq e
  subst e
  cases Rp.bl_inv (h'.view List.mem_cons_self rfl)
  exact ⟨b, rfl, k _ _ _ q' h'.pop⟩
theorem t3cmp {a b : Expr} {op : CmpOp} {fn : Fn2} {cd : Cd2} {ta tb : TE3} (ho : OpR X (compareOp op) (r3 X.K fn cd)) (ha : PE3 X E a ta) (hb : PE3 X E b tb) (hm : behindInMarks op b = false) : PT3 X E (.Compare a [op] [b] pos) (t3T (t3op fn cd ta tb)) :=
  ptImp (pt_cmpR ho ha hb hm) fun _ _ _ h => up2 (upTe h)
theorem t3val {e : Expr} {t : TE3} (h : PE3 X E e t) (he : ∀ whole, isTrue e X.env whole = (do let v ← whole; standAt e.pos; holding [v] (truthy v)) := by intro _; rfl) : PT3 X E e (t3T t) :=
  ptImp (pt_val h he) fun _ _ _ h => upTe h
theorem t3pw {e : Expr} {t : TT3} (h : PW3 X E e t) : PT3 X E e t := PW.pt h
def t3and (t u : TT3) : TT3 := fun E ρ Q => t E ρ fun c ρ1 => if c = true then u E ρ1 Q else Q false ρ1
def t3or (t u : TT3) : TT3 := fun E ρ Q => t E ρ fun c ρ1 => if c = true then Q true ρ1 else u E ρ1 Q
def t3not (t : TT3) : TT3 := fun E ρ Q => t E ρ fun c ρ1 => Q (!c) ρ1
theorem w3and1 {a : Expr} {t : TT3} (h : PT3 X E a t) : PW3 X E (.BoolOp .And [a] pos) t := pw_and1 h
theorem w3or1 {a : Expr} {t : TT3} (h : PT3 X E a t) : PW3 X E (.BoolOp .Or [a] pos) t := pw_or1 h
theorem w3and {a b : Expr} {rest : List Expr} {t u : TT3} (ha : PT3 X E a t) (hb : PW3 X E (.BoolOp .And (b :: rest) pos) u) : PW3 X E (.BoolOp .And (a :: b :: rest) pos) (t3and t u) :=
  pwImp (pw_and ha hb) fun σ H Q ⟨F, ρ, T, Q3, h, cv, q, k⟩ => ⟨F, ρ, T, _, h, cv, q, fun c ρ1 H1 q1 h1 => by
    cases c with
    | true => exact iteT ⟨F, ρ1, T, Q3, h1, cv, by simpa using q1, k⟩
    | false => exact iteF (k _ _ _ (by simpa using q1) h1)⟩
theorem w3or {a b : Expr} {rest : List Expr} {t u : TT3} (ha : PT3 X E a t) (hb : PW3 X E (.BoolOp .Or (b :: rest) pos) u) : PW3 X E (.BoolOp .Or (a :: b :: rest) pos) (t3or t u) :=
  pwImp (pw_or ha hb) fun σ H Q ⟨F, ρ, T, Q3, h, cv, q, k⟩ => ⟨F, ρ, T, _, h, cv, q, fun c ρ1 H1 q1 h1 => by
    cases c with
    | true => exact iteT (k _ _ _ (by simpa using q1) h1)
    | false => exact iteF ⟨F, ρ1, T, Q3, h1, cv, by simpa using q1, k⟩⟩
theorem t3notP {a : Expr} {t : TT3} (h : PT3 X E a t) : PT3 X E (.UnaryOp .Not a pos) (t3not t) :=
  ptImp (pt_not h) fun σ H Q ⟨F, ρ, T, Q3, h, cv, q, k⟩ => ⟨F, ρ, T, _, h, cv, q, fun c ρ1 H1 q1 h1 => k _ _ _ q1 h1⟩
/-! as values -/
def t3andV (ta tb : TE3) : TE3 := fun E ρ Q => ta E ρ fun r ρ1 => ∃ c, asB r = some c ∧ if c = true then tb E ρ1 Q else Q (.d (.bool false)) ρ1
def t3orV (ta tb : TE3) : TE3 := fun E ρ Q => ta E ρ fun r ρ1 => ∃ c, asB r = some c ∧ if c = true then Q (.d (.bool true)) ρ1 else tb E ρ1 Q
def t3notV (ta : TE3) : TE3 := fun E ρ Q => ta E ρ fun r ρ1 => ∃ c, asB r = some c ∧ Q (.d (.bool (!c))) ρ1
theorem p3one {op : BoolOp} {a : Expr} {t : TE3} (h : PE3 X E a t) : PE3 X E (.BoolOp op [a] pos) t := pe_one h
theorem p3and {a b : Expr} {rest : List Expr} {t u : TE3} (ha : PE3 X E a t) (hb : PE3 X E (.BoolOp .And (b :: rest) pos) u) : PE3 X E (.BoolOp .And (a :: b :: rest) pos) (t3andV t u) :=
  peImp (pe_and ha hb) fun σ H Q ⟨F, ρ, T, Q3, h, cv, q, k⟩ => ⟨F, ρ, T, _, h, cv, q, fun r ρ1 v H1 ⟨c, e, q1⟩ h1 => by
    have e := asB_eq e
    subst e
    cases Rp.bl_inv (h1.view List.mem_cons_self rfl)
    refine ⟨c, rfl, ?_⟩
    cases c with
    | true => exact iteT ⟨F, ρ1, T, Q3, h1.pop, cv, by simpa using q1, k⟩
    | false => exact iteF (k _ _ _ _ (by simpa using q1) (h1.pop.push (.bl false)))⟩
theorem p3or {a b : Expr} {rest : List Expr} {t u : TE3} (ha : PE3 X E a t) (hb : PE3 X E (.BoolOp .Or (b :: rest) pos) u) : PE3 X E (.BoolOp .Or (a :: b :: rest) pos) (t3orV t u) :=
  peImp (pe_or ha hb) fun σ H Q ⟨F, ρ, T, Q3, h, cv, q, k⟩ => ⟨F, ρ, T, _, h, cv, q, fun r ρ1 v H1 ⟨c, e, q1⟩ h1 => by
    have e := asB_eq e
    subst e
    cases Rp.bl_inv (h1.view List.mem_cons_self rfl)
    refine ⟨c, rfl, ?_⟩
    cases c with
    | true => exact iteT (k _ _ _ _ (by simpa using q1) (h1.pop.push (.bl true)))
    | false => exact iteF ⟨F, ρ1, T, Q3, h1.pop, cv, by simpa using q1, k⟩⟩
theorem p3not {a : Expr} {t : TE3} (ha : PE3 X E a t) : PE3 X E (.UnaryOp .Not a pos) (t3notV t) :=
  peImp (pe_not ha) fun σ H Q ⟨F, ρ, T, Q3, h, cv, q, k⟩ => ⟨F, ρ, T, _, h, cv, q, fun r ρ1 v H1 ⟨c, e, q1⟩ h1 => by
    have e := asB_eq e
    subst e
    cases Rp.bl_inv (h1.view List.mem_cons_self rfl)
    exact ⟨c, rfl, k _ _ _ _ q1 (h1.pop.push (.bl _))⟩⟩
def t3if (t : TT3) (ta tb : TE3) : TE3 := fun E ρ Q => t E ρ fun c ρ1 => if c = true then ta E ρ1 Q else tb E ρ1 Q
theorem p3if {c a b : Expr} {t : TT3} {ta tb : TE3} (hc : PT3 X E c t) (ha : PE3 X E a ta) (hb : PE3 X E b tb) : PE3 X E (.IfExp c a b pos) (t3if t ta tb) :=
  peImp (pe_ifExp hc ha hb) fun σ H Q ⟨F, ρ, T, Q3, h, cv, q, k⟩ => ⟨F, ρ, T, _, h, cv, q, fun c ρ1 H1 q1 h1 => by
    cases c with
    | true => exact iteT ⟨F, ρ1, T, Q3, h1, cv, by simpa using q1, k⟩
    | false => exact iteF ⟨F, ρ1, T, Q3, h1, cv, by simpa using q1, k⟩⟩
/-! chains -/
def t3chain (f f' : Fn2) (c c' : Cd2) (ta tb tc : TE3) : TE3 := fun E ρ Q => ta E ρ fun r1 ρ1 => tb E ρ1 fun r2 ρ2 => Op2 (view2 ρ2 r1 r2) (fun x y => (f x y).bind fun z => asB (mkR z)) c fun k =>
  (if k = true then tc E ρ2 fun r3 ρ3 => Op2 (view2 ρ3 r2 r3) f' c' fun z => Q (mkR z) ρ3 else Q (.d (.bool false)) ρ2)
theorem opv_inv {fn : Fn2} {cd : Cd2} {ρ : En} {r1 r2 z : Rs} (e1 : opv fn ρ r1 r2 = some z) (e2 : cdv cd ρ r1 r2) : ∃ x y w, viewR ρ r1 = some x ∧ viewR ρ r2 = some y ∧ fn x y = some w ∧ z = mkR w ∧ cd x y := by
  unfold opv at e1
  cases hx : viewR ρ r1 with
  | none => rw [hx] at e1; cases e1
  | some x =>
    cases hy : viewR ρ r2 with
    | none => rw [hx, hy] at e1; cases e1
    | some y =>
      rw [hx, hy] at e1
      cases hf : fn x y with
      | none => simp [hf] at e1
      | some w =>
        simp [hf] at e1
        subst e1
        unfold cdv at e2
        rw [hx, hy] at e2
        exact ⟨x, y, w, rfl, rfl, hf, rfl, e2⟩
theorem mkR_bool {w : D} {b : Bool} (h : mkR w = .d (.bool b)) : w = .bool b := by
  cases w <;> first | (cases h; rfl) | cases h
theorem upChain {K : PySem.W.Frag} {f f' : Fn2} {c c' : Cd2} {ta tb tc : TE3} {σ : L2.St} {H : Hp} {Q : VK} (h : up K E (t3chain f f' c c' ta tb tc) σ H Q) :
    tChain (r3 K f c) (r3 K f' c') (up K E ta) (up K E tb) (up K E tc) σ H Q := by
  obtain ⟨F, ρ, T, Q3, h, cv, q, k⟩ := h
  refine ⟨F, ρ, T, _, h, cv, q, fun r1 ρ1 v1 H1 q1 h1 => ⟨F, ρ1, _, _, h1, cv, q1, fun r2 ρ2 v2 H2 q2 h2 => ?_⟩⟩
  obtain ⟨x, y, ev, b, e1, hc, q3⟩ := q2
  obtain ⟨hx, hy⟩ := view2_eq ev
  cases hf : f x y with
  | none => simp [hf] at e1
  | some w =>
    have e1' : asB (mkR w) = some b := by simpa [hf] using e1
    have e4 : w = .bool b := mkR_bool (asB_eq e1')
    subst e4
    refine ⟨_, x, y, _, h2.view (List.mem_cons_of_mem _ List.mem_cons_self) hx, h2.view List.mem_cons_self hy, hf, hc, fun v H' rt => ?_⟩
    obtain ⟨rfl, rfl⟩ : H' = H2 ∧ v = .bl b := by
      cases rt with
      | same r n => cases r; exact ⟨rfl, rfl⟩
    refine ⟨b, rfl, ?_⟩
    cases b with
    | true =>
      refine iteT ⟨F, ρ2, _, _, h2, cv, by simpa using q3, fun r3' ρ3 v3 H3 q4 h3 => ?_⟩
      obtain ⟨x', y', ev', w', hf', hc', q5⟩ := q4
      obtain ⟨hx', hy'⟩ := view2_eq ev'
      refine ⟨_, x', y', w', h3.view (List.mem_cons_of_mem _ List.mem_cons_self) hx', h3.view List.mem_cons_self hy', hf', hc', fun v H' rt => ?_⟩
      exact k _ _ _ _ q5 (((h3.ret rt).perm (((List.Perm.swap _ _ _).trans (List.Perm.cons _ (List.Perm.swap _ _ _))).trans (List.Perm.cons _ (List.Perm.cons _ (List.Perm.swap _ _ _))))).pop.pop.pop)
    | false => exact iteF (k _ _ _ _ (by simpa using q3) (h2.pop.pop.push (.bl false)))
theorem p3chain {a b c : Expr} {op op' : CmpOp} {f f' : Fn2} {cd cd' : Cd2} {ta tb tc : TE3} (ho : OpR X (compareOp op) (r3 X.K f cd)) (ho' : OpR X (compareOp op') (r3 X.K f' cd')) (ha : PE3 X E a ta) (hb : PE3 X E b tb) (hc : PE3 X E c tc)
    (hm : lastMarks [op, op'] [b, c] = false := by with_unfolding_all rfl) : PE3 X E (.Compare a [op, op'] [b, c] pos) (t3chain f f' cd cd' ta tb tc) :=
  peImp (pe_chain ho ho' ha hb hc hm) fun _ _ _ h => upChain h
theorem t3chainP {a b c : Expr} {op op' : CmpOp} {f f' : Fn2} {cd cd' : Cd2} {ta tb tc : TE3} (ho : OpR X (compareOp op) (r3 X.K f cd)) (ho' : OpR X (compareOp op') (r3 X.K f' cd')) (ha : PE3 X E a ta) (hb : PE3 X E b tb) (hc : PE3 X E c tc)
    (hm : lastMarks [op, op'] [b, c] = false := by with_unfolding_all rfl) : PT3 X E (.Compare a [op, op'] [b, c] pos) (t3T (t3chain f f' cd cd' ta tb tc)) :=
  ptImp (pt_chain ho ho' ha hb hc hm) fun _ _ _ h => upChain (upTe h)
/-! minus -/
def fnNeg : D → Option D
  | .int i => some (.int (-i))
  | _ => none
def t3neg (ta : TE3) : TE3 := fun E ρ Q => ta E ρ fun r ρ1 => Do ((viewR ρ1 r).bind fun x => (fnNeg x).map mkR) True fun z => Q z ρ1
theorem p3neg {a : Expr} {ta : TE3} (ha : PE3 X E a ta) : PE3 X E (.UnaryOp .USub a pos) (t3neg ta) :=
  peImp (pe_un un_neg ha) fun σ H Q ⟨F, ρ, T, Q3, h, cv, q, k⟩ => ⟨F, ρ, T, _, h, cv, q, fun r ρ1 v H1 ⟨z, e1, _, q1⟩ h1 => by
    cases hx : viewR ρ1 r with
    | none => rw [hx] at e1; cases e1
    | some x =>
      rw [hx] at e1
      cases x with
      | int i =>
        have : z = .d (.int (-i)) := by simpa [fnNeg, mkR] using e1.symm
        subst this
        cases Rp.int_inv (h1.view List.mem_cons_self hx)
        exact ⟨i, rfl, k _ _ _ _ q1 (h1.pop.push (.int _))⟩
      | _ => cases e1⟩
end
end L3

namespace L3
open PySem PySem.Spec PyProof.Rows L2
/-! ### data that is kept: lists freeze -/
def frzO : Ob → Option D
  | .lst xs => some (.list xs)
  | _ => none
def frzR (ρ : En) : Rs → Option (D × En)
  | .d x => some (x, ρ)
  | .nw o => (frzO o).map fun x => (x, ρ)
  | .at i => match ρ[i]? with
    | some (.d x) => some (x, ρ)
    | some (.ow none o) => (frzO o).map fun x => (x, ρ.set i (.d x))
    | _ => none
section
variable {K : PySem.W.Frag} {F : F3} {ρ ρ' : En} {σ : L2.St} {T T' : Tm} {H H' : Hp} {v : V} {x z : D} {r : Rs} {i : Nat}
theorem S3.freezeO {o : Ob} {C : List Cell} (h : S3 K F ((some v, .ow none o) :: C) H) (e : frzO o = some x) : S3 K F ((some v, .d x) :: C) H := by
  cases o with
  | lst xs =>
    cases e
    have z : CellOk K F _ H (some v, .ow none (.lst xs)) := h.ok _ List.mem_cons_self
    cases v with
    | ref a => exact h.freeze
    | _ => exact z.elim
  | _ => cases e
theorem St3.unslot {c' : Sl} {w' : Option V} {C : List Cell} (hl : σ.length = ρ.length) (al : ∀ p ∈ T, ∀ j, p.2 = .at j → (σ.set i w')[j]? = some (some p.1)) (s : S3 K F C H)
    (p : (tCs T ++ List.zip (σ.set i w') (ρ.set i c')).Perm C) : St3 K F (ρ.set i c') (σ.set i w') T H :=
  ⟨by simpa using hl, s.perm p.symm, al⟩
theorem St3.frz (h : St3 K F ρ σ ((v, r) :: T) H) (e : frzR ρ r = some (x, ρ')) : St3 K F ρ' σ ((v, .d x) :: T) H := by
  cases r with
  | d y => cases e; exact h
  | nw o =>
    cases ho : frzO o with
    | none => simp [frzR, ho] at e
    | some y =>
      simp [frzR, ho] at e
      obtain ⟨rfl, rfl⟩ := e
      refine ⟨h.len, ?_, fun q hq j ej => ?_⟩
      · have s := h.s
        have e1 : tCs ((v, .nw o) :: T) ++ List.zip σ ρ = (some v, Sl.ow none o) :: (tCs T ++ List.zip σ ρ) := by simp [tCs, tC1]
        have e2 : tCs ((v, .d y) :: T) ++ List.zip σ ρ = (some v, Sl.d y) :: (tCs T ++ List.zip σ ρ) := by simp [tCs, tC1]
        rw [e1] at s
        rw [e2]
        exact s.freezeO ho
      · rcases List.mem_cons.mp hq with z | z
        · subst z; cases ej
        · exact h.al q (List.mem_cons_of_mem _ z) j ej
  | «at» i =>
    have hv := h.al _ List.mem_cons_self i rfl
    have e : (match ρ[i]? with
      | some (.d x) => some (x, ρ)
      | some (.ow none o) => (frzO o).map fun x => (x, ρ.set i (.d x))
      | _ => none) = some (x, ρ') := e
    split at e
    · rename_i y hy
      cases e
      obtain ⟨v', h1, h2⟩ := h.pop.rpSlot hy
      rw [hv] at h1; cases h1
      exact h.pop.push h2
    · rename_i o hy
      cases ho : frzO o with
      | none => simp [ho] at e
      | some y =>
        simp [ho] at e
        obtain ⟨rfl, rfl⟩ := e
        have h0 := h.pop
        obtain ⟨w, R, hw, p, s, un⟩ := h0.slot hy
        rw [hv] at hw; cases hw
        have s1 := s.freezeO ho
        have es : σ.set i (some v) = σ := set_same hv
        have h1 : St3 K F (ρ.set i (.d y)) (σ.set i (some v)) T H := St3.unslot h0.len (by rw [es]; exact h0.al) s1 (un _ _)
        rw [es] at h1
        refine h1.push ?_
        have hi : i < ρ.length := (List.getElem?_eq_some_iff.mp hy).1
        obtain ⟨v', e1, e2⟩ := h1.rpSlot (i := i) (x := y) (by rw [List.getElem?_set_self hi])
        rw [hv] at e1; cases e1
        exact e2
    · cases e
def frzL : En → List Rs → Option (List D × En)
  | ρ, [] => some ([], ρ)
  | ρ, r :: rs => (frzR ρ r).bind fun p => (frzL p.2 rs).map fun q => (p.1 :: q.1, q.2)
theorem St3.frzL : ∀ {rs : List Rs} {vs : List V} {ρ : En} {T : Tm} {xs : List D} {ρ' : En}, St3 K F ρ σ (List.zip vs rs ++ T) H → vs.length = rs.length → L3.frzL ρ rs = some (xs, ρ') → St3 K F ρ' σ (List.zip vs (xs.map .d) ++ T) H ∧ vs.length = xs.length
  | [], vs, ρ, T, xs, ρ', h, hl, e => by
    cases e
    have : vs = [] := List.eq_nil_of_length_eq_zero hl
    subst this
    exact ⟨h, rfl⟩
  | r :: rs, [], ρ, T, xs, ρ', h, hl, e => by cases hl
  | r :: rs, v :: vs, ρ, T, xs, ρ', h, hl, e => by
    unfold L3.frzL at e
    cases h1 : frzR ρ r with
    | none => rw [h1] at e; cases e
    | some p =>
      rw [h1] at e
      cases h2 : L3.frzL p.2 rs with
      | none => simp [h2] at e
      | some q =>
        simp [h2] at e
        obtain ⟨rfl, rfl⟩ := e
        have k1 := St3.frz (show St3 K F ρ σ ((v, r) :: (List.zip vs rs ++ T)) H from h) h1
        have k2 : St3 K F p.2 σ (List.zip vs rs ++ ((v, .d p.1) :: T)) H := k1.perm List.perm_middle.symm
        have ⟨k3, k4⟩ := St3.frzL (rs := rs) k2 (by simpa using hl) h2
        exact ⟨k3.perm List.perm_middle, by simp [k4]⟩
theorem St3.rpL : ∀ {xs : List D} {vs : List V} {T : Tm}, St3 K F ρ σ (List.zip vs (xs.map .d) ++ T) H → vs.length = xs.length → RpL K H (okO F (cellsOf ρ σ (List.zip vs (xs.map .d) ++ T))) vs xs := fun {xs vs T} h hl => by
  have key : ∀ (xs : List D) (vs : List V), vs.length = xs.length → (∀ p ∈ List.zip vs (xs.map Rs.d), p ∈ List.zip vs (xs.map Rs.d)) →
      (∀ v x, (v, Rs.d x) ∈ List.zip vs (xs.map Rs.d) → Rp K H (okO F (cellsOf ρ σ (List.zip vs (xs.map .d) ++ T))) v x) → True := fun _ _ _ _ _ => trivial
  have mem : ∀ v x, (v, Rs.d x) ∈ List.zip vs (xs.map Rs.d) → Rp K H (okO F (cellsOf ρ σ (List.zip vs (xs.map .d) ++ T))) v x := fun v x hm =>
    h.s.rp (List.mem_append_left _ (List.mem_flatMap.mpr ⟨_, List.mem_append_left _ hm, by simp [tC1]⟩))
  generalize okO F (cellsOf ρ σ (List.zip vs (xs.map .d) ++ T)) = ok at mem ⊢
  clear h key
  induction xs generalizing vs with
  | nil =>
    have : vs = [] := List.eq_nil_of_length_eq_zero hl
    subst this
    exact .nil
  | cons x xs ih =>
    cases vs with
    | nil => cases hl
    | cons v vs => exact .cons (mem v x List.mem_cons_self) (ih (by simpa using hl) fun v' x' hm => mem v' x' (List.mem_cons_of_mem _ hm))
end
/-! ### arguments, tuples, lists -/
abbrev TA3 := (Exc → Prop) → En → (List Rs → En → Prop) → Prop
def upA (K : PySem.W.Frag) (E : XK) (t : TA3) : TA := fun σ H Q => ∃ (F : F3) (ρ : En) (T : Tm) (Q3 : List Rs → En → Prop), St3 K F ρ σ T H ∧ Cv K F E ∧ t F.E3 ρ Q3 ∧
  ∀ rs ρ' vs H', Q3 rs ρ' → vs.length = rs.length → St3 K F ρ' σ (List.zip vs rs ++ T) H' → Q vs H'
abbrev PA3 (X : Cx) (E : XK) (es : List Expr) (t : TA3) : Prop := PA X es (upA X.K E t)
def t3nil : TA3 := fun _ ρ Q => Q [] ρ
def t3cons (ta : TE3) (tr : TA3) : TA3 := fun E ρ Q => ta E ρ fun r ρ1 => tr E ρ1 fun rs ρ2 => Q (r :: rs) ρ2
section
variable {X : Cx} {E : XK} {pos : Pos} {e : Expr} {es : List Expr}
theorem paImp {t t' : TA} (h : PA X es t) (k : ∀ σ H Q, t' σ H Q → t σ H Q) : PA X es t' := ⟨fun pos pins s σ H Q I q => h.run pos pins s σ H Q I (k σ H Q q)⟩
theorem a3nil : PA3 X E [] t3nil := paImp pa_nil fun σ H Q ⟨F, ρ, T, Q3, h, cv, q, k⟩ => k _ _ _ _ q rfl h
theorem a3cons {ta : TE3} {tr : TA3} (ha : PE3 X E e ta) (hr : PA3 X E es tr) (hs : starEach (e :: es) X.env = (false, eval e X.env) :: starEach es X.env := by rfl) : PA3 X E (e :: es) (t3cons ta tr) :=
  paImp (pa_cons ha hr hs) fun σ H Q ⟨F, ρ, T, Q3, h, cv, q, k⟩ => ⟨F, ρ, T, _, h, cv, q, fun r ρ1 v H1 q1 h1 => ⟨F, ρ1, _, _, h1, cv, q1, fun rs ρ2 vs H2 q2 hl h2 =>
    k _ _ _ _ q2 (by simp [hl]) (h2.perm List.perm_middle)⟩⟩
def t3tup (t : TA3) : TE3 := fun E ρ Q => t E ρ fun rs ρ1 => ∃ xs ρ2, frzL ρ1 rs = some (xs, ρ2) ∧ xs.length ≤ sizeLine ∧ Q (.d (.tuple xs)) ρ2
def t3lst (t : TA3) : TE3 := fun E ρ Q => t E ρ fun rs ρ1 => ∃ xs ρ2, frzL ρ1 rs = some (xs, ρ2) ∧ xs.length ≤ sizeLine ∧ Q (.nw (.lst xs)) ρ2
theorem St3.drop2 {K : PySem.W.Frag} {F : F3} {ρ : En} {σ : L2.St} {T T1 : Tm} {H : Hp} {p : V × Rs} (h : St3 K F ρ σ (p :: (T1 ++ T)) H) : St3 K F ρ σ (p :: T) H :=
  (h.perm (T' := T1 ++ (p :: T)) List.perm_middle.symm).drops
theorem p3tup {t : TA3} {x1 : Nat} (h : PA3 X E es t) : PE3 X E (.Tuple es x1 pos) (t3tup t) :=
  peImp (pe_tup h) fun σ H Q ⟨F, ρ, T, Q3, h, cv, q, k⟩ => ⟨F, ρ, T, _, h, cv, q, fun rs ρ1 vs H1 ⟨xs, ρ2, e1, e2, q1⟩ hl h1 => by
    obtain ⟨h2, l2⟩ := h1.frzL hl e1
    refine ⟨by rw [l2]; exact e2, fun p hp => k _ _ _ _ q1 ?_⟩
    exact St3.drop2 (h2.ret (.tup hp (h2.rpL l2)))⟩
theorem p3lst {t : TA3} (h : PA3 X E es t) : PE3 X E (.List es pos) (t3lst t) :=
  peImp (pe_lst h) fun σ H Q ⟨F, ρ, T, Q3, h, cv, q, k⟩ => ⟨F, ρ, T, _, h, cv, q, fun rs ρ1 vs H1 ⟨xs, ρ2, e1, e2, q1⟩ hl h1 => by
    obtain ⟨h2, l2⟩ := h1.frzL hl e1
    refine ⟨by rw [l2]; exact e2, fun p hp => k _ _ _ _ q1 ?_⟩
    exact St3.drop2 (h2.ret (.lst hp (h2.rpL l2)))⟩
/-! ### built-ins by data -/
def viewL (ρ : En) : List Rs → Option (List D)
  | [] => some []
  | r :: rs => (viewR ρ r).bind fun x => (viewL ρ rs).map fun xs => x :: xs
abbrev FnL := List D → Option D
abbrev CdL := List D → Prop
def c3 (K : PySem.W.Frag) (fn : FnL) (cd : CdL) : List V → Hp → VK → Prop := fun xs H Q => ∃ ok ds z, Paired (Vw K H ok) xs ds ∧ fn ds = some z ∧ cd ds ∧ ∀ v H', Ret K H ok v z H' → Q v H'
def cdL (cd : CdL) (ρ : En) (rs : List Rs) : Prop := match viewL ρ rs with
  | some ds => cd ds
  | none => False
def t3call (fn : FnL) (cd : CdL) (t : TA3) : TE3 := fun E ρ Q => t E ρ fun rs ρ1 => Op1 (viewL ρ1 rs) fn cd fun z => Q (mkR z) ρ1
theorem viewL_paired {K : PySem.W.Frag} {F : F3} {ρ : En} {σ : L2.St} {T0 : Tm} {H : Hp} (h : St3 K F ρ σ T0 H) : ∀ {rs : List Rs} {vs : List V} {ds : List D}, vs.length = rs.length → (∀ p ∈ List.zip vs rs, p ∈ T0) → viewL ρ rs = some ds → Paired (Vw K H (okO F (cellsOf ρ σ T0))) vs ds
  | [], vs, ds, hl, _, e => by
    cases e
    have : vs = [] := List.eq_nil_of_length_eq_zero hl
    subst this
    exact .nil
  | r :: rs, [], ds, hl, _, e => by cases hl
  | r :: rs, v :: vs, ds, hl, hm, e => by
    unfold viewL at e
    cases h1 : viewR ρ r with
    | none => rw [h1] at e; cases e
    | some x =>
      rw [h1] at e
      cases h2 : viewL ρ rs with
      | none => simp [h2] at e
      | some xs =>
        simp [h2] at e
        subst e
        exact .cons (h.view (hm _ List.mem_cons_self) h1) (viewL_paired h (by simpa using hl) (fun p hp => hm p (List.mem_cons_of_mem _ hp)) h2)
theorem upCB {K : PySem.W.Frag} {fn : FnL} {cd : CdL} {t : TA3} {σ : L2.St} {H : Hp} {Q : VK} (h : up K E (t3call fn cd t) σ H Q) : tCB (c3 K fn cd) (upA K E t) σ H Q := by
  obtain ⟨F, ρ, T, Q3, h, cv, q, k⟩ := h
  refine ⟨F, ρ, T, _, h, cv, q, fun rs ρ1 vs H1 ⟨ds, hv, w, hf, e2, q1⟩ hl h1 => ?_⟩
  exact ⟨_, ds, w, viewL_paired h1 hl (fun p hp => List.mem_append_left _ hp) hv, hf, e2, fun v H' rt => k _ _ _ _ q1 (St3.drop2 (h1.ret rt))⟩
theorem p3callB {fn : FnL} {cd : CdL} {id : String} {x : Str} {p : Pos} {t : TA3} (hc : CallR X (.builtin id) (c3 X.K fn cd)) (hg : Gl X x) (hm : X.mg x = none) (hv : bootBuiltins x = some (.builtin id)) (ha : PA3 X E (e :: es) t) (hn : x ≠ "__name__" := by decide) (hdb : (x == ("__debug__" : Str)) = false := by decide)
    (he : starEach (e :: es) X.env = (false, eval e X.env) :: starEach es X.env := by rfl) (hpl : (backTo pos (starEach es X.env)).any (·.1) = false := by rfl) : PE3 X E (.Call (.Name x p) (e :: es) [] pos) (t3call fn cd t) :=
  peImp (pe_callB hc hg hm hv ha hn hdb he hpl) fun _ _ _ h => upCB h
theorem p3callTy {fn : FnL} {cd : CdL} {Ty : String} {x : Str} {p : Pos} {t : TA3} (hc : CallR X (.type Ty) (c3 X.K fn cd)) (hg : Gl X x) (hm : X.mg x = none) (hv : bootBuiltins x = some (.type Ty)) (ha : PA3 X E (e :: es) t) (hn : x ≠ "__name__" := by decide) (hdb : (x == ("__debug__" : Str)) = false := by decide)
    (he : starEach (e :: es) X.env = (false, eval e X.env) :: starEach es X.env := by rfl) (hpl : (backTo pos (starEach es X.env)).any (·.1) = false := by rfl) : PE3 X E (.Call (.Name x p) (e :: es) [] pos) (t3call fn cd t) :=
  peImp (pe_callTy hc hg hm hv ha hn hdb he hpl) fun _ _ _ h => upCB h
end
end L3

namespace L3
open PySem PySem.Spec PyProof.Rows L2
/-! ### promises -/
/-- an argument: data, or an object that the def may change (at most one of them) -/
inductive Ar where
  | d (x : D)
  | bo (o : Ob)
abbrev Sp3 := List Ar → (Rs → Ob → Prop) → (Exc → Prop) → Prop
def arSl : Nat → List Ar → List Sl
  | _, [] => []
  | k, .d x :: r => .d x :: arSl (k + 1) r
  | k, .bo o :: r => .ow (some k) o :: arSl (k + 1) r
def isAt : Rs → Bool
  | .at _ => true
  | _ => false
def boC (F : F3) (b : Option Nat) (out : Ob) : List Cell := match b with
  | none => []
  | some k => match F.arg k with
    | some a => [(some (.ref a), .ow (some k) out)]
    | none => []
structure Fin3 (K : PySem.W.Frag) (F : F3) (b : Option Nat) (r : Rs) (out : Ob) (v : V) (H' : Hp) : Prop where
  na : isAt r = false
  s : S3 K F (tC1 (v, r) ++ boC F b out) H'
def prom (K : PySem.W.Frag) (n : Nat) (b : Option Nat) (sp : Sp3) : Sp := fun vs H Q E => ∃ (F : F3) (ars : List Ar) (Q3 : Rs → Ob → Prop),
  vs.length = n ∧ F.H0 = H ∧ St3 K F (arSl 0 ars) (vs.map some) [] H ∧ (∀ k a, F.arg k = some a → b = some k ∧ vs[k]? = some (.ref a)) ∧ (∀ k, b = some k → ∃ o, ars[k]? = some (.bo o)) ∧ Cv K F E ∧ sp ars Q3 F.E3 ∧
  ∀ r out v H', Q3 r out → Fin3 K F b r out v H' → Q v H'

/-- the arguments as they are handed over: the place b may be changed, the others are data from then on -/
def frzB (b : Option Nat) : Nat → En → List Rs → Option (List Rs × En)
  | _, ρ, [] => some ([], ρ)
  | k, ρ, r :: rs => if b = some k then (frzB b (k + 1) ρ rs).map fun q => (r :: q.1, q.2) else (frzR ρ r).bind fun p => (frzB b (k + 1) p.2 rs).map fun q => (.d p.1 :: q.1, q.2)
def arsOf (b : Option Nat) (ρ : En) : Nat → List Rs → Option (List Ar)
  | _, [] => some []
  | k, r :: rs => if b = some k then (match r with
      | .at i => match ρ[i]? with
        | some (.ow _ o) => (arsOf b ρ (k + 1) rs).map fun q => .bo o :: q
        | _ => none
      | _ => none) else (match r with
      | .d x => (arsOf b ρ (k + 1) rs).map fun q => .d x :: q
      | _ => none)
structure Passed where
  ars : List Ar
  rs : List Rs
  en : En
def pass (b : Option Nat) (ρ : En) (rs : List Rs) : Option Passed := (frzB b 0 ρ rs).bind fun p => (arsOf b p.2 0 p.1).map fun ars => ⟨ars, p.1, p.2⟩
/-- what comes back -/
def back (b : Option Nat) (rs : List Rs) (out : Ob) (ρ : En) : En := match b with
  | none => ρ
  | some k => match rs[k]? with
    | some (.at i) => match ρ[i]? with
      | some (.ow s _) => ρ.set i (.ow s out)
      | _ => ρ
    | _ => ρ
def t3def (n : Nat) (b : Option Nat) (sp : Sp3) (t : TA3) : TE3 := fun E ρ Q => t E ρ fun rs ρ1 => ∃ ars rs' ρ2, pass b ρ1 rs = some ⟨ars, rs', ρ2⟩ ∧ rs.length = n ∧ sp ars (fun r out => Q r (back b rs' out ρ2)) E

inductive Pas (b : Option Nat) (ρ : En) : Nat → List Rs → List Ar → Prop
  | nil {k : Nat} : Pas b ρ k [] []
  | d {k : Nat} {x : D} {rs : List Rs} {ars : List Ar} : b ≠ some k → Pas b ρ (k + 1) rs ars → Pas b ρ k (.d x :: rs) (.d x :: ars)
  | bo {k i : Nat} {s : Option Nat} {o : Ob} {rs : List Rs} {ars : List Ar} : b = some k → ρ[i]? = some (.ow s o) → Pas b ρ (k + 1) rs ars → Pas b ρ k (.at i :: rs) (.bo o :: ars)
section
variable {K : PySem.W.Frag} {F : F3} {ρ ρ' : En} {σ : L2.St} {T T' : Tm} {H H' : Hp} {v : V} {x z : D} {r : Rs} {i : Nat} {b : Option Nat}
theorem St3.frzB : ∀ {rs : List Rs} {vs : List V} {ρ : En} {T : Tm} {k : Nat} {q : List Rs × En}, St3 K F ρ σ (List.zip vs rs ++ T) H → vs.length = rs.length → L3.frzB b k ρ rs = some q → St3 K F q.2 σ (List.zip vs q.1 ++ T) H ∧ vs.length = q.1.length
  | [], vs, ρ, T, k, q, h, hl, e => by
    unfold L3.frzB at e
    cases e
    exact ⟨h, hl⟩
  | r :: rs, [], ρ, T, k, q, h, hl, e => by cases hl
  | r :: rs, v :: vs, ρ, T, k, q, h, hl, e => by
    unfold L3.frzB at e
    by_cases hb : b = some k
    · rw [if_pos hb] at e
      cases h2 : L3.frzB b (k + 1) ρ rs with
      | none => rw [h2] at e; cases e
      | some q' =>
        rw [h2] at e
        cases e
        have k2 : St3 K F ρ σ (List.zip vs rs ++ ((v, r) :: T)) H := St3.perm (T := (v, r) :: (List.zip vs rs ++ T)) h List.perm_middle.symm
        have ⟨k3, k4⟩ := St3.frzB (rs := rs) k2 (by simpa using hl) h2
        exact ⟨k3.perm List.perm_middle, by simp [k4]⟩
    · rw [if_neg hb] at e
      cases h1 : frzR ρ r with
      | none => rw [h1] at e; cases e
      | some p =>
        rw [h1] at e
        cases h2 : L3.frzB b (k + 1) p.2 rs with
        | none => simp [h2] at e
        | some q' =>
          simp [h2] at e
          subst e
          have k1 := St3.frz (show St3 K F ρ σ ((v, r) :: (List.zip vs rs ++ T)) H from h) h1
          have k2 : St3 K F p.2 σ (List.zip vs rs ++ ((v, .d p.1) :: T)) H := k1.perm List.perm_middle.symm
          have ⟨k3, k4⟩ := St3.frzB (rs := rs) k2 (by simpa using hl) h2
          exact ⟨k3.perm List.perm_middle, by simp [k4]⟩
theorem arsOf_pas : ∀ {rs : List Rs} {k : Nat} {ars : List Ar}, arsOf b ρ k rs = some ars → Pas b ρ k rs ars
  | [], k, ars, e => by
    unfold arsOf at e
    cases e
    exact .nil
  | r :: rs, k, ars, e => by
    unfold arsOf at e
    by_cases hb : b = some k
    · rw [if_pos hb] at e
      cases r with
      | «at» i =>
        simp only at e
        split at e
        · rename_i s o ho
          cases h2 : arsOf b ρ (k + 1) rs with
          | none => rw [h2] at e; cases e
          | some q => rw [h2] at e; cases e; exact .bo hb ho (arsOf_pas h2)
        · cases e
      | _ => cases e
    · rw [if_neg hb] at e
      cases r with
      | d x =>
        simp only at e
        cases h2 : arsOf b ρ (k + 1) rs with
        | none => rw [h2] at e; cases e
        | some q => rw [h2] at e; cases e; exact .d hb (arsOf_pas h2)
      | _ => cases e
theorem Pas.length : ∀ {rs : List Rs} {ars : List Ar} {k : Nat}, Pas b ρ k rs ars → rs.length = ars.length
  | _, _, _, .nil => rfl
  | _, _, _, .d _ t => by rw [List.length_cons, List.length_cons, Pas.length t]
  | _, _, _, .bo _ _ t => by rw [List.length_cons, List.length_cons, Pas.length t]
/-- no borrowed one behind the place b -/
theorem Pas.cells {F' : F3} {O' : List Addr} {ad : Option Addr} : ∀ {rs : List Rs} {ars : List Ar} {vs : List V} {k : Nat}, Pas b ρ k rs ars → vs.length = rs.length →
    (∀ v x, (v, Rs.d x) ∈ List.zip vs rs → Rp K H (fun a => F'.ok a ∧ a ∉ O') v x) →
    (∀ v i s o, (v, Rs.at i) ∈ List.zip vs rs → ρ[i]? = some (.ow s o) → ∃ a, ad = some a ∧ v = .ref a ∧ ObOk K H (fun a => F'.ok a ∧ a ∉ O') a o ∧ ∀ k, b = some k → F'.arg k = some a) →
    (∀ c ∈ List.zip (vs.map some) (arSl k ars), CellOk K F' O' H c) ∧
    (own (List.zip (vs.map some) (arSl k ars)) = [] ∨ ((∃ j, b = some j ∧ k ≤ j) ∧ ∃ a, ad = some a ∧ own (List.zip (vs.map some) (arSl k ars)) = [a]))
  | _, _, vs, k, .nil, hl, hd, ha => by
    have : vs = [] := List.eq_nil_of_length_eq_zero hl
    subst this
    exact ⟨fun c hc => by simp [arSl] at hc, .inl (by simp [arSl, own])⟩
  | _, _, [], k, .d _ t, hl, hd, ha => by cases hl
  | _, _, [], k, .bo _ _ t, hl, hd, ha => by cases hl
  | _, _, v :: vs, k, .d (x := x) hb t, hl, hd, ha => by
    have ⟨k1, k2⟩ := Pas.cells (F' := F') (O' := O') (ad := ad) t (vs := vs) (by simpa using hl) (fun v x hm => hd v x (List.mem_cons_of_mem _ hm)) (fun v i s o hm => ha v i s o (List.mem_cons_of_mem _ hm))
    refine ⟨fun c hc => ?_, ?_⟩
    · rcases List.mem_cons.mp hc with z | z
      · subst z
        exact hd v x List.mem_cons_self
      · exact k1 c z
    · rcases k2 with k2 | ⟨⟨j, e, hj⟩, a, e1, e2⟩
      · exact .inl (by simpa [arSl, own, ownC] using k2)
      · exact .inr ⟨⟨j, e, by omega⟩, a, e1, by simpa [arSl, own, ownC] using e2⟩
  | _, _, v :: vs, k, .bo (i := i) (s := s) (o := o) hb ho t, hl, hd, ha => by
    have ⟨k1, k2⟩ := Pas.cells (F' := F') (O' := O') (ad := ad) t (vs := vs) (by simpa using hl) (fun v x hm => hd v x (List.mem_cons_of_mem _ hm)) (fun v i s o hm => ha v i s o (List.mem_cons_of_mem _ hm))
    obtain ⟨a, e1, rfl, ob, e3⟩ := ha v i s o List.mem_cons_self ho
    refine ⟨fun c hc => ?_, ?_⟩
    · rcases List.mem_cons.mp hc with z | z
      · subst z
        exact ⟨ob, e3 k hb⟩
      · exact k1 c z
    · rcases k2 with k2 | ⟨⟨j, e, hj⟩, _⟩
      · exact .inr ⟨⟨k, hb, Nat.le_refl _⟩, a, e1, by
          have : own (List.zip (vs.map some) (arSl (k + 1) _)) = [] := k2
          simp only [List.map_cons, arSl, List.zip_cons_cons, own, List.flatMap_cons, ownC] at this ⊢
          rw [this]
          rfl⟩
      · rw [hb] at e; cases e; omega

/-- behind a call that leaves all but A as it was; Z: new owned ones -/
theorem S3.keepC {C : List Cell} {A Z : List Addr} (h : S3 K F C H) (hk : ∀ b o, H b = some o → b ∉ A → H' b = some o) (hA : ∀ a ∈ A, a ∈ own C) (hZ : ∀ a ∈ Z, H a = none) :
    (∀ v x, Rp K H (okO F C) v x → Rp K H' (fun b => F.ok b ∧ b ∉ Z ++ own C) v x) ∧ (∀ c ∈ C, (∀ a ∈ A, a ∉ ownC c) → CellOk K F (Z ++ own C) H' c) := by
  have car : ∀ v x, Rp K H (okO F C) v x → Rp K H' (fun b => F.ok b ∧ b ∉ Z ++ own C) v x := fun v x r => by
    have nA : ∀ a u, H a = some u → ¬ MutO u → a ∉ A := fun a u e m ha => by
      obtain ⟨w, e2, m2⟩ := h.mut a (hA a ha)
      rw [e] at e2; cases e2; exact m m2
    have c1 : ∀ b xs, H b = some (.lst xs) → okO F C b → H' b = some (.lst xs) ∧ F.ok b ∧ b ∉ Z ++ own C := fun b xs q k => ⟨hk b _ q fun hb => k.2 (hA b hb), k.1, fun hb => by
      rcases List.mem_append.mp hb with y | y
      · rw [hZ b y] at q; cases q
      · exact k.2 y⟩
    refine Rp.imp c1 (fun a xs q => ?_) (fun a xs q => ?_) x v r
    · rcases q with (q | ⟨ob, q⟩) | q
      · exact .inl (.inl (hk _ _ q (nA _ _ q fun z => z)))
      · exact .inl (.inr ⟨ob, hk _ _ q (nA _ _ q fun z => z)⟩)
      · exact .inr q
    · rcases q with ⟨ob, q⟩ | q
      · exact .inl ⟨ob, hk _ _ q (nA _ _ q fun z => z)⟩
      · exact .inr q
  refine ⟨car, fun c hc n => (h.ok c hc).imp car (fun b hb => ?_) fun _ _ z => z⟩
  obtain ⟨u, hu, _⟩ := (h.ok c hc).mut b hb
  rw [hu]
  exact hk b u hu fun hA' => n b hA' hb
theorem srcArg {a : Addr} {s : Option Nat} (hs : SrcOk F a s) {o : HO} (e : F.H0 a = some o) (n : ∀ k, F.arg k ≠ some a) : False := by
  cases s with
  | none => rw [show F.H0 a = none from hs] at e; cases e
  | some k => exact n k hs
abbrev okc (F : F3) (O : List Addr) : Addr → Prop := fun a => F.ok a ∧ a ∉ O
theorem own_app (C1 C2 : List Cell) : own (C1 ++ C2) = own C1 ++ own C2 := by simp [own]
theorem CellOk.mono {F' : F3} {c : Cell} {O O' : List Addr} (h : CellOk K F O H c) (hok : ∀ b, F.ok b ∧ b ∉ O → F'.ok b ∧ b ∉ O') (hs : ∀ a s, SrcOk F a s → SrcOk F' a s) : CellOk K F' O' H c :=
  h.imp (fun v x r => rp_keep (fun _ _ q _ => q) hok r) (fun _ _ => rfl) hs
theorem resCell {F' : F3} {c : Cell} {O O' : List Addr} (hc : c ∈ tC1 (v, r)) (h : CellOk K F O H c) (hok : ∀ b, F.ok b ∧ b ∉ O → F'.ok b ∧ b ∉ O') (hs : ∀ a, F.H0 a = none → F'.H0 a = none) : CellOk K F' O' H c := by
  have hd : ∀ v x, Rp K H (okc F O) v x → Rp K H (okc F' O') v x := fun v x r => rp_keep (fun _ _ q _ => q) hok r
  cases r with
  | d x =>
    have e : c = (some v, .d x) := by simpa [tC1] using hc
    subst e
    exact hd _ _ h
  | «at» i => simp [tC1] at hc
  | nw o =>
    have e : c = (some v, .ow none o) := by simpa [tC1] using hc
    subst e
    cases v with
    | ref a => exact ⟨h.1.imp hd rfl, hs a h.2⟩
    | _ => exact h.elim
/-- a call comes back; nothing was to be changed -/
theorem St3.back0 {F' : F3} {out : Ob} (h : St3 K F ρ σ T H) (e0 : F'.H0 = H) (hok : ∀ b, F'.ok b → okO F (cellsOf ρ σ T) b) (ha : ∀ k a, F'.arg k = some a → none = some k) (hf : Fin3 K F' none r out v H') :
    St3 K F ρ σ ((v, r) :: T) H' := by
  have hk : ∀ b o, H b = some o → b ∉ ([] : List Addr) → H' b = some o := fun b o e _ => hf.s.kp b o (by rw [e0]; exact e) fun k z => by cases ha k b z
  have hZ : ∀ a ∈ own (tC1 (v, r)), H a = none := fun a hm => by
    cases r with
    | d x => simp [tC1, own, ownC] at hm
    | «at» i => simp [tC1, own] at hm
    | nw o =>
      have z := hf.s.ok (some v, .ow none o) (by simp [tC1])
      cases v with
      | ref p =>
        have : a = p := by simpa [tC1, own, ownC] using hm
        subst this
        rw [← e0]; exact z.2
      | _ => exact z.elim
  have ⟨car, ck⟩ := h.s.keepC hk (fun a h => by cases h) hZ
  have eo : own (tC1 (v, r) ++ cellsOf ρ σ T) = own (tC1 (v, r)) ++ own (cellsOf ρ σ T) := own_app _ _
  have hnd : (own (tC1 (v, r))).Nodup := by
    have := hf.s.nd
    rw [own_app] at this
    exact (List.nodup_append.mp this).1
  have er : tCs ((v, r) :: T) ++ List.zip σ ρ = tC1 (v, r) ++ cellsOf ρ σ T := by simp [tCs]
  refine ⟨h.len, ?_, fun q hq j ej => ?_⟩
  · rw [er]
    refine ⟨?_, fun c hc => ?_, fun b o e n => ?_, fun k a e => ?_⟩
    · rw [eo]
      refine List.nodup_append.mpr ⟨hnd, h.s.nd, fun a h1 b h2 => ?_⟩
      rintro rfl
      obtain ⟨u, hu, _⟩ := h.s.mut a h2
      rw [hZ a h1] at hu; cases hu
    · rw [eo]
      rcases List.mem_append.mp hc with hc | hc
      · have z := hf.s.ok c (List.mem_append_left _ hc)
        have ef : own (tC1 (v, r) ++ boC F' none out) = own (tC1 (v, r)) := by simp [boC]
        rw [ef] at z
        exact resCell hc z (fun b k => ⟨(hok b k.1).1, fun hb => (List.mem_append.mp hb).elim k.2 (hok b k.1).2⟩) fun a hs => (h.s.fresh (by rw [← e0]; exact hs)).2
      · exact ck c hc fun a h => by cases h
    · exact hk b o (h.s.kp b o e n) (by simp)
    · obtain ⟨u, hu, hm⟩ := h.s.ar k a e
      exact ⟨u, hk a u hu (by simp), hm⟩
  · rcases List.mem_cons.mp hq with z | z
    · subst z
      have e : r = .at j := ej
      have := hf.na
      rw [e] at this; cases this
    · exact h.al q z j ej
/-- a call comes back, the object of the slot i has changed -/
theorem St3.back1 {F' : F3} {out o : Ob} {b : Nat} {s : Option Nat} {a : Addr} (h : St3 K F ρ σ T H) (hi : ρ[i]? = some (.ow s o)) (hσ : σ[i]? = some (some (.ref a))) (e0 : F'.H0 = H) (hok : ∀ b, F'.ok b → okO F (cellsOf ρ σ T) b) (hb : F'.arg b = some a) (ha : ∀ k a', F'.arg k = some a' → a' = a)
    (hf : Fin3 K F' (some b) r out v H') : St3 K F (ρ.set i (.ow s out)) σ ((v, r) :: T) H' := by
  obtain ⟨w, R, hw, p, sC, un⟩ := h.slot hi
  rw [hσ] at hw; cases hw
  have oa : own ((some (V.ref a), Sl.ow s o) :: (tCs T ++ R)) = a :: own (tCs T ++ R) := by simp [own, ownC]
  have oa' : own ((some (V.ref a), Sl.ow s out) :: (tCs T ++ R)) = a :: own (tCs T ++ R) := by simp [own, ownC]
  have po : (own (cellsOf ρ σ T)).Perm (a :: own (tCs T ++ R)) := by rw [← oa]; exact List.Perm.flatMap_right ownC p
  have hk : ∀ b o, H b = some o → b ∉ [a] → H' b = some o := fun b o e n => hf.s.kp b o (by rw [e0]; exact e) fun k z => n (by rw [ha k b z]; exact List.mem_cons_self)
  have hZ : ∀ a ∈ own (tC1 (v, r)), H a = none := fun a hm => by
    cases r with
    | d x => simp [tC1, own, ownC] at hm
    | «at» i => simp [tC1, own] at hm
    | nw o =>
      have z := hf.s.ok (some v, .ow none o) (by simp [tC1])
      cases v with
      | ref p =>
        have : a = p := by simpa [tC1, own, ownC] using hm
        subst this
        rw [← e0]; exact z.2
      | _ => exact z.elim
  have nd := sC.nd
  rw [oa] at nd
  have ⟨car, ck⟩ := sC.keepC (A := [a]) hk (fun b h => by
    have : b = a := by simpa using h
    rw [this, oa]; exact List.mem_cons_self) hZ
  rw [oa] at ck
  have ebo : boC F' (some b) out = [(some (.ref a), .ow (some b) out)] := by simp [boC, hb]
  have fs := hf.s
  rw [ebo] at fs
  have hnd : (own (tC1 (v, r))).Nodup := by
    have := fs.nd
    rw [own_app] at this
    exact (List.nodup_append.mp this).1
  have es : σ.set i (some (V.ref a)) = σ := set_same hσ
  have er : (tCs ((v, r) :: T) ++ List.zip σ (ρ.set i (.ow s out))).Perm (tC1 (v, r) ++ ((some (V.ref a), Sl.ow s out) :: (tCs T ++ R))) := by
    have := un (some (V.ref a)) (.ow s out)
    rw [es] at this
    have e : tCs ((v, r) :: T) ++ List.zip σ (ρ.set i (.ow s out)) = tC1 (v, r) ++ (tCs T ++ List.zip σ (ρ.set i (.ow s out))) := by simp [tCs]
    rw [e]
    exact List.Perm.append_left _ this
  obtain ⟨ob, hs⟩ : ObOk K H _ a o ∧ SrcOk F a s := sC.ok _ List.mem_cons_self
  have fb : CellOk K F' (own (tC1 (v, r) ++ [(some (.ref a), .ow (some b) out)])) H' (some (.ref a), .ow (some b) out) := fs.ok _ (by simp)
  have efo : own (tC1 (v, r) ++ [(some (V.ref a), Sl.ow (some b) out)]) = own (tC1 (v, r)) ++ [a] := by rw [own_app]; simp [own, ownC]
  rw [efo] at fb
  have hok' : ∀ b, F'.ok b → F.ok b ∧ b ∉ a :: own (tCs T ++ R) := fun b k => ⟨(hok b k).1, fun hb => (hok b k).2 (po.mem_iff.mpr hb)⟩
  refine ⟨by rw [List.length_set]; exact h.len, S3.perm ?_ er.symm, fun q hq j ej => ?_⟩
  · have eo : own (tC1 (v, r) ++ ((some (V.ref a), Sl.ow s out) :: (tCs T ++ R))) = own (tC1 (v, r)) ++ (a :: own (tCs T ++ R)) := by rw [own_app, oa']
    refine ⟨?_, fun c hc => ?_, fun b' o' e n => ?_, fun k a' e => ?_⟩
    · rw [eo]
      refine List.nodup_append.mpr ⟨hnd, nd, fun a1 h1 b1 h2 => ?_⟩
      rintro rfl
      obtain ⟨u, hu, _⟩ := sC.mut a1 (by rw [oa]; exact h2)
      rw [hZ a1 h1] at hu; cases hu
    · rw [eo]
      rcases List.mem_append.mp hc with hc | hc
      · have z := fs.ok c (List.mem_append_left _ hc)
        rw [efo] at z
        exact resCell hc z (fun b k => ⟨(hok' b k.1).1, fun hb => (List.mem_append.mp hb).elim (fun y => k.2 (List.mem_append_left _ y)) (hok' b k.1).2⟩) fun a hs => (h.s.fresh (by rw [← e0]; exact hs)).2
      · rcases List.mem_cons.mp hc with y | hc2
        · subst y
          refine ⟨fb.1.imp (fun v x r => rp_keep (fun _ _ q _ => q) (fun b k => ⟨(hok' b k.1).1, fun hb => (List.mem_append.mp hb).elim (fun y => k.2 (List.mem_append_left _ y)) (hok' b k.1).2⟩) r) rfl, hs⟩
        · refine ck c (List.mem_cons_of_mem _ hc2) fun b2 hb2 hm => ?_
          have : b2 = a := by simpa using hb2
          subst this
          exact (List.nodup_cons.mp nd).1 (List.mem_flatMap.mpr ⟨c, hc2, hm⟩)
    · have z := h.s.kp b' o' e n
      refine hk b' o' z fun hb' => ?_
      have : b' = a := by simpa using hb'
      subst this
      exact srcArg hs e n
    · obtain ⟨u, hu, hm⟩ := h.s.ar k a' e
      by_cases hb' : a' = a
      · subst hb'
        obtain ⟨u', hu', hm'⟩ := fb.1.mut
        exact ⟨u', hu', hm'⟩
      · exact ⟨u, hk a' u hu (by simpa using hb'), hm⟩
  · rcases List.mem_cons.mp hq with z | z
    · subst z
      have e : r = .at j := ej
      have := hf.na
      rw [e] at this; cases this
    · exact h.al q z j ej

theorem Pas.getBo : ∀ {rs : List Rs} {ars : List Ar} {k j : Nat}, Pas b ρ k rs ars → b = some (k + j) → j < rs.length → ∃ i s o, rs[j]? = some (.at i) ∧ ars[j]? = some (.bo o) ∧ ρ[i]? = some (.ow s o)
  | _, _, _, _, .nil, _, hl => by simp at hl
  | _, _, k, 0, .d hb _, e, _ => absurd (by simpa using e) hb
  | _, _, k, 0, .bo (i := i) (s := s) (o := o) _ ho _, e, _ => ⟨i, s, o, rfl, rfl, ho⟩
  | _, _, k, j + 1, .d _ t, e, hl => by
    obtain ⟨i, s, o, h1, h2, h3⟩ := Pas.getBo (j := j) t (by rw [e]; congr 1; omega) (by simpa using hl)
    exact ⟨i, s, o, by simpa using h1, by simpa using h2, h3⟩
  | _, _, k, j + 1, .bo _ _ t, e, hl => by
    obtain ⟨i, s, o, h1, h2, h3⟩ := Pas.getBo (j := j) t (by rw [e]; congr 1; omega) (by simpa using hl)
    exact ⟨i, s, o, by simpa using h1, by simpa using h2, h3⟩
theorem Pas.noAt : ∀ {rs : List Rs} {ars : List Ar} {k : Nat} {i : Nat}, Pas b ρ k rs ars → .at i ∈ rs → ∃ j, b = some j ∧ k ≤ j ∧ j < k + rs.length
  | _, _, _, _, .nil, h => by simp at h
  | _, _, k, i, .d _ t, h => by
    rcases List.mem_cons.mp h with z | z
    · cases z
    · obtain ⟨j, h1, h2, h3⟩ := Pas.noAt t z
      exact ⟨j, h1, by omega, by simp only [List.length_cons]; omega⟩
  | _, _, k, i, .bo hb _ t, h => ⟨k, hb, Nat.le_refl _, by simp only [List.length_cons]; omega⟩
theorem frzB_len : ∀ {rs : List Rs} {ρ : En} {k : Nat} {q : List Rs × En}, L3.frzB b k ρ rs = some q → rs.length = q.1.length
  | [], ρ, k, q, e => by
    unfold L3.frzB at e
    cases e; rfl
  | r :: rs, ρ, k, q, e => by
    unfold L3.frzB at e
    by_cases hb : b = some k
    · rw [if_pos hb] at e
      cases h2 : L3.frzB b (k + 1) ρ rs with
      | none => rw [h2] at e; cases e
      | some q' => rw [h2] at e; cases e; simp [frzB_len h2]
    · rw [if_neg hb] at e
      cases h1 : frzR ρ r with
      | none => rw [h1] at e; cases e
      | some p =>
        rw [h1] at e
        cases h2 : L3.frzB b (k + 1) p.2 rs with
        | none => simp [h2] at e
        | some q' => simp [h2] at e; subst e; simp [frzB_len h2]
theorem arSl_get : ∀ {ars : List Ar} {k j : Nat} {x : D}, ars[j]? = some (.d x) → (arSl k ars)[j]? = some (.d x)
  | [], _, _, _, h => by simp at h
  | .d y :: r, k, 0, x, h => by simpa [arSl] using h
  | .bo y :: r, k, 0, x, h => by simp at h
  | .d y :: r, k, j + 1, x, h => by simpa [arSl] using arSl_get (k := k + 1) (by simpa using h)
  | .bo y :: r, k, j + 1, x, h => by simpa [arSl] using arSl_get (k := k + 1) (by simpa using h)
theorem arSl_len : ∀ {ars : List Ar} {k : Nat}, (arSl k ars).length = ars.length
  | [], _ => rfl
  | .d y :: r, k => by simp [arSl, arSl_len]
  | .bo y :: r, k => by simp [arSl, arSl_len]
theorem mem_zip_get {α β : Type} : ∀ {l : List α} {m : List β} {a : α} {b : β}, (a, b) ∈ List.zip l m → ∃ j : Nat, l[j]? = some a ∧ m[j]? = some b
  | [], _, _, _, h => by simp at h
  | _ :: _, [], _, _, h => by simp at h
  | x :: l, y :: m, a, b, h => by
    rcases List.mem_cons.mp (show (a, b) ∈ (x, y) :: List.zip l m from h) with z | z
    · cases z; exact ⟨0, rfl, rfl⟩
    · obtain ⟨j, h1, h2⟩ := mem_zip_get z
      exact ⟨j + 1, by simpa using h1, by simpa using h2⟩
theorem get_zip_mem {α β : Type} : ∀ {l : List α} {m : List β} {j : Nat} {a : α} {b : β}, l[j]? = some a → m[j]? = some b → (a, b) ∈ List.zip l m
  | [], _, _, _, _, h, _ => by simp at h
  | _ :: _, [], _, _, _, _, h => by simp at h
  | x :: l, y :: m, 0, a, b, h, h' => by
    have e1 : x = a := by simpa using h
    have e2 : y = b := by simpa using h'
    rw [e1, e2]; exact List.mem_cons_self
  | x :: l, y :: m, j + 1, a, b, h, h' => List.mem_cons_of_mem _ (get_zip_mem (j := j) (by simpa using h) (by simpa using h'))
theorem Pas.at_ix : ∀ {rs : List Rs} {ars : List Ar} {k j i : Nat}, Pas b ρ k rs ars → rs[j]? = some (.at i) → b = some (k + j)
  | _, _, _, _, _, .nil, h => by simp at h
  | _, _, k, 0, i, .d _ _, h => by simp at h
  | _, _, k, 0, i, .bo hb _ _, h => by simpa using hb
  | _, _, k, j + 1, i, .d _ t, h => by
    have := Pas.at_ix (j := j) t (by simpa using h)
    rw [this]; congr 1; omega
  | _, _, k, j + 1, i, .bo _ _ t, h => by
    have := Pas.at_ix (j := j) t (by simpa using h)
    rw [this]; congr 1; omega

def adOf (b : Option Nat) (vs : List V) : Option Addr := match b with
  | none => none
  | some j => match vs[j]? with
    | some (.ref a) => some a
    | _ => none
/-- a call by a promise -/
theorem callProm {E : XK} {sp : Sp3} {rs : List Rs} {vs : List V} {z : Passed} {n : Nat} {Q3 : Rs → En → Prop} {Q : VK} (hn : vs.length = n) (hbn : ∀ j, b = some j → j < n) (h1 : St3 K F ρ σ (List.zip vs rs ++ T) H) (hl : vs.length = rs.length) (hp : pass b ρ rs = some z) (cv : Cv K F E)
    (hs : sp z.ars (fun r out => Q3 r (back b z.rs out z.en)) F.E3) (k : ∀ r ρ' v H', Q3 r ρ' → St3 K F ρ' σ ((v, r) :: T) H' → Q v H') : prom K n b sp vs H Q E := by
  unfold pass at hp
  cases hf : L3.frzB b 0 ρ rs with
  | none => rw [hf] at hp; cases hp
  | some q =>
    rw [hf] at hp
    cases ha : arsOf b q.2 0 q.1 with
    | none => simp [ha] at hp
    | some ars =>
      simp [ha] at hp
      subst hp
      obtain ⟨h2, l2⟩ := h1.frzB hl hf
      have P := arsOf_pas ha
      have h3 : St3 K F q.2 σ T H := h2.drops
      -- the address that may be changed
      have adr : ∀ j, b = some j → ∃ i s o a, q.1[j]? = some (.at i) ∧ ars[j]? = some (.bo o) ∧ q.2[i]? = some (.ow s o) ∧ vs[j]? = some (.ref a) ∧ σ[i]? = some (some (.ref a)) ∧ a ∈ own (cellsOf q.2 σ T) ∧ SrcOk F a s ∧ ObOk K H (okO F (cellsOf q.2 σ (List.zip vs q.1 ++ T))) a o := fun j ej => by
        obtain ⟨i, s, o, k1, k2, k3⟩ := P.getBo (j := j) (by simpa using ej) (by rw [← l2, hn]; exact hbn j ej)
        obtain ⟨a, m1, m2, m3, m4⟩ := h3.owSlot k3
        obtain ⟨a', m1', m2', _, _⟩ := h2.owSlot k3
        rw [m1] at m1'; cases m1'
        have hj : j < vs.length := by rw [hn]; exact hbn j ej
        have hm : (vs[j], Rs.at i) ∈ List.zip vs q.1 := get_zip_mem (List.getElem?_eq_getElem hj) k1
        have := h2.al _ (List.mem_append_left _ hm) i rfl
        rw [m1] at this
        have ev : vs[j] = .ref a := (Option.some.inj (Option.some.inj this)).symm
        exact ⟨i, s, o, a, k1, k2, k3, by rw [List.getElem?_eq_getElem hj, ev], m1, m3, m4, m2'⟩
      let ad : Option Addr := adOf b vs
      have had : ∀ j, b = some j → ∀ a, vs[j]? = some (.ref a) → ad = some a := fun j ej a ea => by
        show adOf b vs = some a
        unfold adOf
        rw [ej]; simp only; rw [ea]
      let F' : F3 := ⟨H, fun k => if b = some k then ad else none, okO F (cellsOf q.2 σ (List.zip vs q.1 ++ T)), fun p hp => by
        obtain ⟨k1, k2⟩ := h2.s.fresh hp
        exact ⟨F.okn p k2, k1⟩, F.E3⟩
      have argE : ∀ k a, F'.arg k = some a → b = some k ∧ vs[k]? = some (.ref a) := fun k a e => by
        by_cases hb : b = some k
        · refine ⟨hb, ?_⟩
          have e2 : ad = some a := by
            have : (if b = some k then ad else none) = some a := e
            rwa [if_pos hb] at this
          obtain ⟨i, s, o, a', _, _, _, k4, _⟩ := adr k hb
          rw [had k hb a' k4] at e2
          cases e2; exact k4
        · have : (if b = some k then ad else none) = some a := e
          rw [if_neg hb] at this; cases this
      have osub : ∀ a, a ∈ own (cellsOf q.2 σ T) → a ∈ own (cellsOf q.2 σ (List.zip vs q.1 ++ T)) := fun a ha => by
        obtain ⟨c, hc, hm⟩ := List.mem_flatMap.mp ha
        refine List.mem_flatMap.mpr ⟨c, ?_, hm⟩
        rcases List.mem_append.mp hc with y | y
        · obtain ⟨p, hp, hm⟩ := List.mem_flatMap.mp y
          exact List.mem_append_left _ (List.mem_flatMap.mpr ⟨p, List.mem_append_right _ hp, hm⟩)
        · exact List.mem_append_right _ y
      have key := Pas.cells (K := K) (H := H) (F' := F') (O' := ad.toList) (ad := ad) P l2
        (fun v x hm => by
          have r := h2.s.rp (v := v) (x := x) (List.mem_append_left _ (List.mem_flatMap.mpr ⟨_, List.mem_append_left _ hm, by simp [tC1]⟩))
          refine rp_keep (fun _ _ q _ => q) (fun b' kb => ⟨kb, fun hb => ?_⟩) r
          have e2 : ad = some b' := by simpa using hb
          cases eb : b with
          | none =>
            have : ad = none := by show adOf b vs = none; unfold adOf; rw [eb]
            rw [this] at e2; cases e2
          | some j =>
            obtain ⟨i, s, o, a', _, _, _, k4, _, k6, _⟩ := adr j eb
            rw [had j eb a' k4] at e2
            cases e2
            exact kb.2 (osub _ k6))
        (fun v i s o hm hi => by
          obtain ⟨j, g1, g2⟩ := mem_zip_get hm
          have ej := P.at_ix g2
          have ej : b = some j := by simpa using ej
          obtain ⟨i', s', o', a', k1, k2, k3, k4, k5, k6, k7, k8⟩ := adr j ej
          rw [g2] at k1; cases k1
          rw [hi] at k3; cases k3
          rw [g1] at k4; cases k4
          have hi2 : ∀ b', okO F (cellsOf q.2 σ (List.zip vs q.1 ++ T)) b' → F'.ok b' ∧ b' ∉ ad.toList := fun b' kb => ⟨kb, fun hb => by
            have e2 : ad = some b' := by simpa using hb
            rw [had j ej a' g1] at e2
            cases e2
            exact kb.2 (osub _ k6)⟩
          refine ⟨a', had j ej a' g1, rfl, k8.imp (fun v x r => rp_keep (fun _ _ q _ => q) hi2 r) rfl, fun k2 e2 => ?_⟩
          rw [ej] at e2; cases e2
          show (if b = some j then ad else none) = some a'
          rw [if_pos ej]; exact had j ej a' g1)
      have ownS : ∀ a, a ∈ own (List.zip (vs.map some) (arSl 0 ars)) → ad = some a := fun a ha => by
        rcases key.2 with e | ⟨_, a', e1, e2⟩
        · rw [e] at ha; cases ha
        · rw [e2] at ha
          have : a = a' := by simpa using ha
          rw [this]; exact e1
      refine ⟨F', ars, fun r out => Q3 r (back b q.1 out q.2), hn, rfl, ⟨by rw [List.length_map, arSl_len, ← P.length, l2], ⟨?_, fun c hc => ?_, fun b' o e n => e, fun k a e => ?_⟩, fun p hp => by cases hp⟩, argE, fun k ek => ?_, ?_, hs, fun r out v H' q3 hf3 => ?_⟩
      · show (own (List.zip (vs.map some) (arSl 0 ars))).Nodup
        rcases key.2 with e | ⟨_, a', e1, e2⟩
        · rw [e]; exact List.nodup_nil
        · rw [e2]; simp
      · have z := key.1 c (by simpa [tCs] using hc)
        refine z.mono (fun b' kb => ⟨kb.1, fun hb => kb.2 ?_⟩) fun _ _ z => z
        have : b' ∈ own (List.zip (vs.map some) (arSl 0 ars)) := by simpa [tCs] using hb
        rw [ownS b' this]; simp
      · obtain ⟨eb, ev⟩ := argE k a e
        obtain ⟨i, s, o, a', _, _, _, k4, _, k6, _⟩ := adr k eb
        rw [ev] at k4; cases k4
        exact h3.s.mut a k6
      · obtain ⟨i, s, o, a', _, k2, _⟩ := adr k ek
        exact ⟨o, k2⟩
      · refine ⟨fun C H' e kp => cv.1 C H' e fun b' o e n => kp b' o (h2.s.kp b' o e n) fun k z => ?_, fun C fs d H' ws e kp hd hw hn' => ?_⟩
        · obtain ⟨eb, ev⟩ := argE k b' z
          obtain ⟨i, s, o', a', _, _, _, k4, _, _, k7, _⟩ := adr k eb
          rw [ev] at k4; cases k4
          exact srcArg k7 e n
        · refine cv.2 C fs d H' ws e (fun b' o e n => kp b' o (h2.s.kp b' o e n) fun k z => ?_) hd (Paired.mapP hw fun p q z => ⟨z.1, rp_keep (fun _ _ q _ => q) (fun b kb => kb.1) z.2⟩) (h2.s.fresh hn').2
          obtain ⟨eb, ev⟩ := argE k b' z
          obtain ⟨i, s, o', a', _, _, _, k4, _, _, k7, _⟩ := adr k eb
          rw [ev] at k4; cases k4
          exact srcArg k7 e n
      · refine k _ _ _ _ q3 ?_
        have hok : ∀ b', F'.ok b' → okO F (cellsOf q.2 σ T) b' := fun b' kb => ⟨kb.1, fun hb => kb.2 (osub _ hb)⟩
        cases eb : b with
        | none =>
          rw [eb] at hf3
          exact h3.back0 rfl hok (fun k a e => by have := (argE k a e).1; rw [eb] at this; cases this) hf3
        | some j =>
          rw [eb] at hf3
          obtain ⟨i, s, o, a, k1, k2, k3, k4, k5, k6, k7, k8⟩ := adr j eb
          have e1 : back (some j) q.1 out q.2 = q.2.set i (.ow s out) := by
            unfold back
            simp only [k1, k3]
          rw [e1]
          refine h3.back1 k3 k5 rfl hok ?_ (fun k a' e => ?_) hf3
          · show (if b = some j then ad else none) = some a
            rw [if_pos eb]; exact had j eb a k4
          · obtain ⟨z1, z2⟩ := argE k a' e
            rw [eb] at z1; cases z1
            rw [k4] at z2; cases z2; rfl
end
end L3

namespace L3
open PySem PySem.Spec PyProof.Rows L2
/-! ### statements -/
structure En3 where
  nx : En → Prop
  rt : Rs → En → Prop
  bk : En → Prop := fun _ => False
  ct : En → Prop := fun _ => False
abbrev TS3 := (Exc → Prop) → En3 → En → Prop
def noAts (T : Tm) : Prop := ∀ p ∈ T, isAt p.2 = false
structure Cont (K : PySem.W.Frag) (F : F3) (T : Tm) (D : Ends) (D3 : En3) : Prop where
  nx : ∀ ρ σ H, D3.nx ρ → St3 K F ρ σ T H → D.nx σ H
  rt : ∀ r ρ σ v H, D3.rt r ρ → St3 K F ρ σ ((v, r) :: T) H → D.rt v H
  bk : ∀ ρ σ H, D3.bk ρ → St3 K F ρ σ T H → D.bk σ H
  ct : ∀ ρ σ H, D3.ct ρ → St3 K F ρ σ T H → D.ct σ H
def upS (K : PySem.W.Frag) (E : XK) (t : TS3) : TS := fun D σ H => ∃ (F : F3) (ρ : En) (T : Tm) (D3 : En3), St3 K F ρ σ T H ∧ noAts T ∧ Cv K F E ∧ t F.E3 D3 ρ ∧ Cont K F T D D3
abbrev PS3 (X : Cx) (E : XK) (st : Stmt) (t : TS3) : Prop := PS X st (upS X.K E t)
abbrev PSs3 (X : Cx) (E : XK) (st : List Stmt) (t : TS3) : Prop := PSs X st (upS X.K E t)
theorem psImp {X : Cx} {st : Stmt} {t t' : TS} (h : PS X st t) (k : ∀ D σ H, t' D σ H → t D σ H) : PS X st t' := ⟨fun pins s σ H D I q => h.run pins s σ H D I (k D σ H q)⟩
theorem pssImp {X : Cx} {st : List Stmt} {t t' : TS} (h : PSs X st t) (k : ∀ D σ H, t' D σ H → t D σ H) : PSs X st t' := ⟨fun pins s σ H D I q => h.run pins s σ H D I (k D σ H q)⟩
theorem noAts.cons {T : Tm} {p : V × Rs} (h : noAts T) (e : isAt p.2 = false) : noAts (p :: T) := fun q hq => by
  rcases List.mem_cons.mp hq with z | z
  · subst z; exact e
  · exact h q z
theorem noAts.al {T : Tm} {σ : L2.St} (h : noAts T) : ∀ p ∈ T, ∀ j, p.2 = .at j → σ[j]? = some (some p.1) := fun p hp j e => by
  have := h p hp
  rw [e] at this; cases this
section
variable {K : PySem.W.Frag} {F : F3} {ρ ρ' : En} {σ σ' : L2.St} {T T' : Tm} {H H' : Hp} {v : V} {x z : D} {r : Rs} {i : Nat}
theorem St3.setSlot {c : Sl} {r : Rs} (h : St3 K F ρ σ ((v, r) :: T) H) (hn : noAts T) (hc : tC1 (v, r) = [(some v, c)]) (hi : i < ρ.length) : St3 K F (ρ.set i c) (σ.set i (some v)) T H := by
  have h0 := h.pop
  obtain ⟨w, R, hw, p, _, un⟩ := h0.slot (List.getElem?_eq_getElem hi)
  have s := h.s
  have e : tCs ((v, r) :: T) ++ List.zip σ ρ = (some v, c) :: cellsOf ρ σ T := by simp [tCs, hc]
  rw [e] at s
  have s1 := s.perm ((List.Perm.cons _ p).trans (List.Perm.swap _ _ _))
  exact ⟨by simp [h.len], s1.tail.perm (un _ _).symm, hn.al⟩
theorem St3.setNo (h : St3 K F ρ σ T H) (hn : noAts T) (w' : Option V) (hi : i < ρ.length) : St3 K F (ρ.set i .no) (σ.set i w') T H := by
  obtain ⟨w, R, hw, p, s, un⟩ := h.slot (List.getElem?_eq_getElem hi)
  exact ⟨by simp [h.len], (s.tail.addNo (v := w')).perm (un _ _).symm, hn.al⟩
end
def stoR (ρ : En) : Rs → Option (Sl × En)
  | .d x => some (.d x, ρ)
  | .nw o => some (.ow none o, ρ)
  | .at j => (frzR ρ (.at j)).map fun p => (.d p.1, p.2)
theorem frzR_len {ρ ρ' : En} {r : Rs} {x : D} (h : frzR ρ r = some (x, ρ')) : ρ'.length = ρ.length := by
  cases r with
  | d y => cases h; rfl
  | nw o =>
    cases ho : frzO o with
    | none => simp [frzR, ho] at h
    | some y => simp [frzR, ho] at h; rw [h.2]
  | «at» i =>
    have h : (match ρ[i]? with
      | some (.d x) => some (x, ρ)
      | some (.ow none o) => (frzO o).map fun x => (x, ρ.set i (.d x))
      | _ => none) = some (x, ρ') := h
    split at h
    · cases h; rfl
    · rename_i o hy
      cases ho : frzO o with
      | none => simp [ho] at h
      | some y => simp [ho] at h; rw [← h.2]; simp
    · cases h
section
variable {K : PySem.W.Frag} {F : F3} {ρ ρ' : En} {σ σ' : L2.St} {T T' : Tm} {H H' : Hp} {v : V} {x z : D} {r : Rs} {i : Nat}
theorem St3.sto {c : Sl} (h : St3 K F ρ σ ((v, r) :: T) H) (hn : noAts T) (e : stoR ρ r = some (c, ρ')) (hi : i < ρ.length) : St3 K F (ρ'.set i c) (σ.set i (some v)) T H := by
  cases r with
  | d y => cases e; exact h.setSlot hn (by simp [tC1]) hi
  | nw o => cases e; exact h.setSlot hn (by simp [tC1]) hi
  | «at» j =>
    cases hf : frzR ρ (.at j) with
    | none => simp [stoR, hf] at e
    | some p =>
      simp [stoR, hf] at e
      obtain ⟨rfl, rfl⟩ := e
      have h1 := h.frz (x := p.1) (ρ' := p.2) (by rw [hf])
      exact h1.setSlot hn (by simp [tC1]) (by rw [frzR_len hf]; exact hi)
end
section
variable {X : Cx} {E : XK} {pos : Pos} {st : Stmt} {rest : List Stmt} {e : Expr}
def t3next : TS3 := fun _ D ρ => D.nx ρ
def t3seq (t u : TS3) : TS3 := fun E D ρ => t E { D with nx := u E D } ρ
theorem b3nil : PSs3 X E [] t3next := pssImp pss_nil fun D σ H ⟨F, ρ, T, D3, h, hn, cv, q, c⟩ => c.nx _ _ _ q h
theorem b3cons {t u : TS3} (h1 : PS3 X E st t) (h2 : PSs3 X E rest u) : PSs3 X E (st :: rest) (t3seq t u) :=
  pssImp (pss_cons h1 h2) fun D σ H ⟨F, ρ, T, D3, h, hn, cv, q, c⟩ => ⟨F, ρ, T, _, h, hn, cv, q, fun ρ' σ' H' q' h' => ⟨F, ρ', T, D3, h', hn, cv, q', c⟩, c.rt, c.bk, c.ct⟩
/-- the ways join behind a statement -/
inductive CutOb (p : (En → Prop) → Prop) (u : En → Prop) : Prop
  | mk (P : En → Prop) (h : p P) (k : ∀ ρ, P ρ → u ρ)
  | no (h : False)
def t3seqJ (t u : TS3) : TS3 := fun E D ρ => CutOb (fun P => t E { D with nx := P } ρ) (u E D)
theorem b3cut {t u : TS3} (h1 : PS3 X E st t) (h2 : PSs3 X E rest u) : PSs3 X E (st :: rest) (t3seqJ t u) :=
  pssImp (pss_cons h1 h2) fun D σ H ⟨F, ρ, T, D3, h, hn, cv, ob, c⟩ => by
    cases ob with
    | no f => exact f.elim
    | mk P q k => exact ⟨F, ρ, T, _, h, hn, cv, q, fun ρ' σ' H' q' h' => ⟨F, ρ', T, D3, h', hn, cv, k ρ' q', c⟩, c.rt, c.bk, c.ct⟩
theorem b3one {t : TS3} (h1 : PS3 X E st t) : PSs3 X E [st] t := pss_one h1
def t3break : TS3 := fun _ D ρ => D.bk ρ
def t3cont : TS3 := fun _ D ρ => D.ct ρ
theorem s3pass : PS3 X E (.Pass pos) t3next := psImp ps_pass fun D σ H ⟨F, ρ, T, D3, h, hn, cv, q, c⟩ => c.nx _ _ _ q h
theorem s3break : PS3 X E (.Break pos) t3break := psImp ps_break fun D σ H ⟨F, ρ, T, D3, h, hn, cv, q, c⟩ => c.bk _ _ _ q h
theorem s3cont : PS3 X E (.Continue pos) t3cont := psImp ps_continue fun D σ H ⟨F, ρ, T, D3, h, hn, cv, q, c⟩ => c.ct _ _ _ q h
def t3drop (te : TE3) : TS3 := fun E D ρ => te E ρ fun _ ρ1 => D.nx ρ1
theorem s3expr {te : TE3} (he : PE3 X E e te) (hs : swapsWith e none pos.line X.env = pure false := by rfl) : PS3 X E (.Expr e pos) (t3drop te) :=
  psImp (ps_expr he hs) fun D σ H ⟨F, ρ, T, D3, h, hn, cv, q, c⟩ => ⟨F, ρ, T, _, h, cv, q, fun r ρ' v H' q' h' => c.nx _ _ _ q' h'.pop⟩
def t3ret (te : TE3) : TS3 := fun E D ρ => te E ρ D.rt
theorem s3ret {te : TE3} (he : PE3 X E e te) : PS3 X E (.Return (some e) pos) (t3ret te) :=
  psImp (ps_ret he) fun D σ H ⟨F, ρ, T, D3, h, hn, cv, q, c⟩ => ⟨F, ρ, T, _, h, cv, q, fun r ρ' v H' q' h' => c.rt _ _ _ _ _ q' h'⟩
def t3retN : TS3 := fun _ D ρ => D.rt (.d .none) ρ
theorem s3retN : PS3 X E (.Return none pos) t3retN := psImp ps_retN fun D σ H ⟨F, ρ, T, D3, h, hn, cv, q, c⟩ => c.rt _ _ _ _ _ q (h.push .non)
def t3ifS (c : TT3) (t u : TS3) : TS3 := fun E D ρ => c E ρ fun b ρ1 => if b = true then t E D ρ1 else u E D ρ1
theorem s3if {c : Expr} {a b : List Stmt} {tc : TT3} {t u : TS3} (hc : PT3 X E c tc) (ha : PSs3 X E a t) (hb : PSs3 X E b u) : PS3 X E (.If c a b pos) (t3ifS tc t u) :=
  psImp (ps_if hc ha hb) fun D σ H ⟨F, ρ, T, D3, h, hn, cv, q, c⟩ => ⟨F, ρ, T, _, h, cv, q, fun b ρ1 H1 q1 h1 => by
    cases b with
    | true => exact iteT ⟨F, ρ1, T, D3, h1, hn, cv, by simpa using q1, c⟩
    | false => exact iteF ⟨F, ρ1, T, D3, h1, hn, cv, by simpa using q1, c⟩⟩
def t3never : TS3 := fun _ _ _ => False
theorem s3never : PS3 X E st t3never := psImp (t := tNever) ps_never fun D σ H ⟨F, ρ, T, D3, h, hn, cv, q, c⟩ => q.elim
def t3set (i : Nat) (te : TE3) : TS3 := fun E D ρ => te E ρ fun r ρ1 => ∃ c ρ2, stoR ρ1 r = some (c, ρ2) ∧ D.nx (ρ2.set i c)
theorem s3set {i : Nat} {x : Str} {te : TE3} {pos' : Pos} (hN : X.N.Nodup) (hi : X.N[i]? = some x) (hx : Loc X.env.scope x) (he : PE3 X E e te) (hs : swapsWith e (some (.Name x pos')) pos.line X.env = pure false := by rfl) (hf : X.fn x = true ∨ X.env.scope.names.lookup x = some .local := by first | exact .inl rfl | exact .inr rfl | assumption) :
    PS3 X E (.Assign [.Name x pos'] e pos) (t3set i te) := by
  refine ⟨fun pins s σ H D I hw => ?_⟩
  obtain ⟨F, ρ, T, D3, h, hn, cv, q, c⟩ := hw
  have hl : i < ρ.length := by rw [← h.len, I.len]; exact (List.getElem?_eq_some_iff.mp hi).1
  have hlen : ∀ {ρ1 : En} {T1 : Tm} {H1 : Hp}, St3 X.K F ρ1 σ T1 H1 → i < ρ1.length := fun h1 => by rw [← h1.len, I.len]; exact (List.getElem?_eq_some_iff.mp hi).1
  refine (ps_set (i := i) hN hi hx he hs hf).run pins s σ H D I ⟨F, ρ, T, _, h, cv, q, fun r ρ' v H' ⟨sl, ρ2, e1, q'⟩ h' => ?_⟩
  exact c.nx _ _ _ q' (h'.sto hn e1 (hlen h'))
/-- x op= e, data -/
def dSl (ρ : En) (i : Nat) : Option D := match ρ[i]? with
  | some (.d x) => some x
  | _ => none
theorem dSl_eq {ρ : En} {i : Nat} {x : D} (h : dSl ρ i = some x) : ρ[i]? = some (.d x) := by
  unfold dSl at h
  split at h
  · rename_i y hy; cases h; exact hy
  · cases h
def t3aug (fn : Fn2) (cd : Cd2) (i : Nat) (te : TE3) : TS3 := fun E D ρ => ∃ x, dSl ρ i = some x ∧ te E ρ fun r ρ1 => Op1 (viewR ρ1 r) (fun y => fn x y) (fun y => cd x y) fun z => ∃ c ρ2, stoR ρ1 (mkR z) = some (c, ρ2) ∧ D.nx (ρ2.set i c)
theorem s3aug {i : Nat} {x : Str} {te : TE3} {op : Operator} {fn : Fn2} {cd : Cd2} {pos' : Pos} (hN : X.N.Nodup) (hi : X.N[i]? = some x) (hx : Loc X.env.scope x) (he : PE3 X E e te) (ho : OpR X (inplaceOp op) (r3 X.K fn cd)) (hf : X.fn x = true ∨ X.env.scope.names.lookup x = some .local := by first | exact .inl rfl | exact .inr rfl | assumption) :
    PS3 X E (.AugAssign (.Name x pos') op e pos) (t3aug fn cd i te) := by
  refine ⟨fun pins s σ H D I hw => ?_⟩
  obtain ⟨F, ρ, T, D3, h, hn, cv, ⟨xd, e0, q⟩, c⟩ := hw
  have hlen : ∀ {ρ1 : En} {T1 : Tm} {H1 : Hp}, St3 X.K F ρ1 σ T1 H1 → i < ρ1.length := fun h1 => by rw [← h1.len, I.len]; exact (List.getElem?_eq_some_iff.mp hi).1
  obtain ⟨v0, hv0, rp⟩ := h.rpSlot (dSl_eq e0)
  refine (ps_aug (i := i) hN hi hx he ho hf).run pins s σ H D I ⟨v0, hv0, F, ρ, _, _, h.push rp, cv, q, fun r ρ' v H' ⟨y, hy, w, hf, e2, sl, ρ2, e1, q'⟩ h' => ?_⟩
  refine ⟨_, xd, y, w, h'.view (List.mem_cons_of_mem _ List.mem_cons_self) rfl, h'.view List.mem_cons_self hy, hf, e2, fun v2 H2 rt => ?_⟩
  have h2 := ((h'.ret rt).perm ((List.Perm.swap _ _ _).trans (List.Perm.cons _ (List.Perm.swap _ _ _)))).pop.pop
  exact c.nx _ _ _ q' (h2.sto hn e1 (hlen h2))

/-! ### targets -/
structure G3 where
  f : D → En → Option En
  ix : List Nat
def upG (K : PySem.W.Frag) (f : G3) : TG := fun v σ H Q => ∃ (F : F3) (ρ : En) (T : Tm) (x : D) (ρ' : En), St3 K F ρ σ ((v, .d x) :: T) H ∧ noAts T ∧ f.f x ρ = some ρ' ∧ ∀ σ', St3 K F ρ' σ' T H → σ'.length = σ.length → (∀ i, i ∉ f.ix → σ'[i]? = σ[i]?) → Q σ' H
abbrev PG3 (X : Cx) (tg : Expr) (f : G3) : Prop := PG X tg (upG X.K f)
def upGs (K : PySem.W.Frag) (fs : List G3) : TGs := fun vs σ H Q => ∃ (F : F3) (ρ : En) (T : Tm) (xs : List D) (ρ' : En), vs.length = xs.length ∧ St3 K F ρ σ (List.zip vs (xs.map .d) ++ T) H ∧ noAts T ∧ gAll fs xs ρ = some ρ' ∧ ∀ σ', St3 K F ρ' σ' T H → σ'.length = σ.length → (∀ i, i ∉ fs.flatMap G3.ix → σ'[i]? = σ[i]?) → Q σ' H
where gAll : List G3 → List D → En → Option En
  | [], [], ρ => some ρ
  | f :: fs, x :: xs, ρ => (f.f x ρ).bind (gAll fs xs)
  | _, _, _ => none
abbrev gAll := upGs.gAll
abbrev PGs3 (X : Cx) (ts : List Expr) (fs : List G3) : Prop := PGs X ts (upGs X.K fs)
def gN (i : Nat) : G3 := ⟨fun x ρ => some (ρ.set i (.d x)), [i]⟩
def gT (fs : List G3) : G3 := ⟨fun x ρ => match x with
  | .tuple xs => gAll fs xs ρ
  | _ => none, fs.flatMap G3.ix⟩
theorem g3name {i : Nat} {x : Str} (hN : X.N.Nodup) (hi : X.N[i]? = some x) (hx : Loc X.env.scope x) (hf : X.fn x = true ∨ X.env.scope.names.lookup x = some .local := by first | exact .inl rfl | exact .inr rfl | assumption) : PG3 X (.Name x pos) (gN i) := by
  refine ⟨fun pins s σ H v u Q I r hw => ?_⟩
  obtain ⟨F, ρ, T, xd, ρ', h, hn, e, k⟩ := hw
  cases e
  have hl : i < ρ.length := by rw [← h.len, I.len]; exact (List.getElem?_eq_some_iff.mp hi).1
  exact (pg_name (i := i) hN hi hx hf).run pins s σ H v u Q I r (k _ (h.setSlot hn (by simp [tC1]) hl) (by simp) fun j hj => List.getElem?_set_ne fun e => hj (by rw [← e]; exact List.mem_singleton.mpr rfl))
theorem gs3nil : PGs3 X [] [] := by
  refine ⟨fun pins s σ H vs us Q I r hw => ?_⟩
  obtain ⟨F, ρ, T, xs, ρ', hl, h, hn, e, k⟩ := hw
  cases xs with
  | nil =>
    have : vs = [] := List.eq_nil_of_length_eq_zero hl
    subst this
    cases e
    exact pgs_nil.run pins s σ H [] us Q I r ⟨rfl, k _ h rfl fun _ _ => rfl⟩
  | cons y ys => cases e
theorem gs3cons {t : Expr} {ts : List Expr} {f : G3} {fs : List G3} (h1 : PG3 X t f) (h2 : PGs3 X ts fs)
    (hs : (assignEach (t :: ts) X.env).map (·.2) = assign t X.env :: (assignEach ts X.env).map (·.2) := by rfl) : PGs3 X (t :: ts) (f :: fs) := by
  refine ⟨fun pins s σ H vs us Q I r hw => ?_⟩
  obtain ⟨F, ρ, T, xs, ρ', hl, h, hn, e, k⟩ := hw
  cases xs with
  | nil => cases e
  | cons y ys =>
    cases vs with
    | nil => cases hl
    | cons v vs =>
      cases hf : f.f y ρ with
      | none => simp [upGs.gAll, hf] at e
      | some ρ1 =>
        simp [upGs.gAll, hf] at e
        refine (pgs_cons h1 h2 hs).run pins s σ H (v :: vs) us Q I r ⟨v, vs, rfl, F, ρ, List.zip vs (ys.map Rs.d) ++ T, y, ρ1, h, ?_, hf, fun σ1 h1' hl1 hx1 => ?_⟩
        · intro p hp
          rcases List.mem_append.mp hp with hp | hp
          · obtain ⟨j, _, g⟩ := mem_zip_get (a := p.1) (b := p.2) hp
            rw [List.getElem?_map] at g
            cases hj : ys[j]? with
            | none => rw [hj] at g; cases g
            | some y' => rw [hj] at g; rw [← Option.some.inj g]; rfl
          · exact hn p hp
        · refine ⟨F, ρ1, T, ys, ρ', by simpa using hl, h1', hn, e, fun σ' h' hl' hx' => k σ' h' (hl'.trans hl1) fun i hi => ?_⟩
          rw [List.flatMap_cons, List.mem_append, not_or] at hi
          rw [hx' i hi.2, hx1 i hi.1]
theorem g3tup {es : List Expr} {k : Nat} {fs : List G3} {n : Nat} (hc : X.calm = true) (hl : fs.length = n) (h : PGs3 X es fs)
    (hn : (assignEach es X.env).length = n := by rfl) (hst : (assignEach es X.env).findIdx? (·.1) = none := by rfl) : PG3 X (.Tuple es k pos) (gT fs) := by
  have len : ∀ (fs : List G3) (xs : List D) (ρ ρ' : En), gAll fs xs ρ = some ρ' → xs.length = fs.length := by
    intro fs
    induction fs with
    | nil => intro xs ρ ρ' e; cases xs with | nil => rfl | cons _ _ => cases e
    | cons f fs ih =>
      intro xs ρ ρ' e
      cases xs with
      | nil => cases e
      | cons x xs =>
        cases hf : f.f x ρ with
        | none => simp [upGs.gAll, hf] at e
        | some ρ1 =>
          simp [upGs.gAll, hf] at e
          simp [ih xs ρ1 ρ' e]
  refine ⟨fun pins s σ H v u Q I r hw => ?_⟩
  obtain ⟨F, ρ, T, x, ρ', h', hn', e, k⟩ := hw
  cases x with
  | tuple xs =>
    have rp := h'.view (x := .tuple xs) List.mem_cons_self rfl
    obtain ⟨a, vs, rfl, hq, rl⟩ := Rp.tup_inv rp
    refine (pg_tup hc h hn hst).run pins s σ H _ u Q I r ⟨a, vs, rfl, hq, ?_, F, ρ, T, xs, ρ', rl.length, ?_, hn', e, k⟩
    · rw [rl.length, len _ _ _ _ e, hl]
    · have h0 := h'.pop
      have rl0 : RpL X.K H (okO F (cellsOf ρ σ T)) vs xs := rpL_map (fun v x r => rp_keep (fun _ _ q _ => q) (fun b kb => by
        exact ⟨kb.1, fun hb => kb.2 (List.mem_flatMap.mpr (let ⟨c, hc, hm⟩ := List.mem_flatMap.mp hb; ⟨c, List.mem_cons_of_mem _ hc, hm⟩))⟩) r) rl
      have pushAll : ∀ (xs : List D) (vs : List V), RpL X.K H (okO F (cellsOf ρ σ T)) vs xs → St3 X.K F ρ σ (List.zip vs (xs.map .d) ++ T) H ∧ own (cellsOf ρ σ (List.zip vs (xs.map .d) ++ T)) = own (cellsOf ρ σ T) := by
        intro xs
        induction xs with
        | nil => intro vs hr; cases hr; exact ⟨h0, rfl⟩
        | cons x xs ih =>
          intro vs hr
          cases hr with
          | cons r t =>
            rename_i v vs
            obtain ⟨k1, k2⟩ := ih vs t
            refine ⟨k1.push (rp_keep (fun _ _ q _ => q) (fun b kb => ⟨kb.1, by rw [k2]; exact kb.2⟩) r), ?_⟩
            have e : cellsOf ρ σ (List.zip (v :: vs) ((x :: xs).map .d) ++ T) = (some v, Sl.d x) :: cellsOf ρ σ (List.zip vs (xs.map .d) ++ T) := rfl
            rw [e]
            have e3 : ∀ C : List Cell, own ((some v, Sl.d x) :: C) = own C := fun C => by simp [own, ownC]
            rw [e3, k2]
      exact (pushAll xs vs rl0).1
  | _ => cases e
/-- a target gets data -/
def t3asg (g : G3) (te : TE3) : TS3 := fun E D ρ => te E ρ fun r ρ1 => ∃ z, (frzR ρ1 r).bind (fun p => g.f p.1 p.2) = some z ∧ D.nx z
theorem s3asg {tg : Expr} {te : TE3} {g : G3} (he : PE3 X E e te) (hg : PG3 X tg g) (hs : swapsWithSole [tg] e pos.line X.env = pure false := by rfl) (hw : swappedStores [tg] e X.env = pure none := by rfl)
    (h1 : (assignEach [tg] X.env).map (·.2) = [assign tg X.env] := by rfl) : PS3 X E (.Assign [tg] e pos) (t3asg g te) :=
  psImp (ps_asg he hg hs hw h1) fun D σ H ⟨F, ρ, T, D3, h, hn, cv, q, c⟩ => ⟨F, ρ, T, _, h, cv, q, fun r ρ' v H' ⟨z, e1, q'⟩ h' => by
    cases hf : frzR ρ' r with
    | none => rw [hf] at e1; cases e1
    | some p =>
      rw [hf] at e1
      exact ⟨F, p.2, T, p.1, z, h'.frz hf, hn, e1, fun σ' h2 _ _ => c.nx _ _ _ q' h2⟩⟩
end
end L3

namespace L3
open PySem PySem.Spec PyProof.Rows L2
section
variable {X : Cx} {E : XK} {pos : Pos} {st : Stmt} {rest : List Stmt} {e : Expr}
/-! ### while -/
inductive WhOb (st : En) (step : Nat → En → (Nat → En → Prop) → Prop) : Prop
  | mk (P : Nat → En → Prop) (m : Nat) (h0 : P m st) (hs : ∀ m ρ, P m ρ → step m ρ P)
  | no (h : False)
def t3while (c : TT3) (tb : TS3) : TS3 := fun E D ρ => WhOb ρ fun m ρ P => c E ρ fun b ρ1 =>
  if b = true then tb E { D with nx := fun ρ' => ∃ m', m' < m ∧ P m' ρ', ct := fun ρ' => ∃ m', m' < m ∧ P m' ρ', bk := D.nx } ρ1 else D.nx ρ1
theorem s3while {c : Expr} {body : List Stmt} {tc : TT3} {tb : TS3} (hp : PassesOwn (model X.prog X.w) X.A X.env X.xe) (hc : PT3 X E c tc) (hb : PSs3 X E body tb) : PS3 X E (.While c body [] pos) (t3while tc tb) :=
  psImp (ps_while hp hc hb) fun D σ H ⟨F, ρ, T, D3, h, hn, cv, ob, c⟩ => by
    cases ob with
    | no f => exact f.elim
    | mk P m0 p0 turn =>
    exact ⟨fun m σ H => ∃ ρ, St3 X.K F ρ σ T H ∧ P m ρ, ⟨m0, ρ, h, p0⟩, fun m σ H ⟨ρ, h, p⟩ => ⟨F, ρ, T, _, h, cv, turn m ρ p, fun b ρ1 H1 q1 h1 => by
      cases b with
      | true =>
        refine iteT ⟨fun σ' H' => ∃ m', m' < m ∧ ∃ ρ, St3 X.K F ρ σ' T H' ∧ P m' ρ, fun σ' H' z => z, F, ρ1, T, _, h1, hn, cv, by simpa using q1, ?_⟩
        exact ⟨fun ρ' σ' H' ⟨m', hm, p'⟩ h' => ⟨m', hm, ρ', h', p'⟩, c.rt, c.nx, fun ρ' σ' H' ⟨m', hm, p'⟩ h' => ⟨m', hm, ρ', h', p'⟩⟩
      | false => exact iteF (c.nx _ _ _ (by simpa using q1) h1)⟩⟩

/-! ### what a for walks -/
def WalkOk (K : PySem.W.Frag) (F : F3) (J : It) (xs : List D) (T' : Tm) : Prop := ∀ (ρ : En) (σ : L2.St) (T : Tm) (H : Hp), St3 K F ρ σ (T' ++ T) H →
  (∀ k y, xs[k]? = some y → J.go k H ∧ ∀ x H', J.yld k H x H' → H' = H ∧ Rp K H (okO F (cellsOf ρ σ (T' ++ T))) x y) ∧ J.stop xs.length H
abbrev TI3 := (Exc → Prop) → En → (List D → En → Prop) → Prop
def upI (K : PySem.W.Frag) (E : XK) (ti : TI3) : TI := fun σ H R => ∃ (F : F3) (ρ : En) (T : Tm) (Q3 : List D → En → Prop), St3 K F ρ σ T H ∧ Cv K F E ∧ ti F.E3 ρ Q3 ∧
  ∀ xs ρ' T' H' J, Q3 xs ρ' → St3 K F ρ' σ (T' ++ T) H' → noAts T' → WalkOk K F J xs T' → R J H'
abbrev PI3 (X : Cx) (E : XK) (tg iter : Expr) (ti : TI3) : Prop := PI X tg iter (upI X.K E ti)
theorem piImp {tg iter : Expr} {t t' : TI} (h : PI X tg iter t) (k : ∀ σ H R, t' σ H R → t σ H R) : PI X tg iter t' := ⟨fun pins s σ H R I q => h.run pins s σ H R I (k σ H R q)⟩
def iAny (K : PySem.W.Frag) (tl : TE) : TI := fun σ H R => tl σ H fun x H1 => (∃ a, x = .ref a ∧ (∃ xs, SqL K H1 a xs) ∧ R (Itl K a) H1) ∨ (∃ a, x = .ref a ∧ (∃ xs, SqT K H1 a xs) ∧ R (Itt K a) H1) ∨ ∃ z, x = .str z ∧ R (Its z) H1
theorem pi_any {tg l : Expr} {tl : TE} (hl : PE X l tl) : PI X tg l (iAny X.K tl) := by
  refine ⟨fun pins s σ H R I h => ?_⟩
  refine thn (hl.run pins s σ H _ I h) fun v s1 ⟨x, H1, I1, r1, q1⟩ => ?_
  rcases q1 with ⟨a, e, ⟨xs, hq⟩, q⟩ | ⟨a, e, ⟨xs, hq⟩, q⟩ | ⟨z, e, q⟩
  · subst e
    cases r1
    obtain ⟨its, rv, p, hz⟩ := I1.list hq
    refine wpAny_pyIter_list p.isList ?_
    refine ⟨s1.heap.objs.size, [s1.heap.objs.size], _, _, H1, rfl, I1.kept (t' := s1.toks) fun b o e => Heap.get?_push_of_some _ e, turn_list a _, ⟨_, Heap.get?_push_size _ rfl, rfl, rfl⟩, fun b hb => ?_, q⟩
    have e : b = s1.heap.objs.size := by simpa using hb
    subst e
    exact I1.fpOk (Nat.le_refl _) (I1.hok.fresh (Nat.le_refl _))
  · subst e
    cases r1
    obtain ⟨its, rv, p, hz⟩ := I1.tuple hq
    refine wpAny_pyIter_tuple (show s1.heap.IsTuple a its.toArray from p) ?_
    refine ⟨s1.heap.objs.size, [s1.heap.objs.size], _, _, H1, rfl, I1.kept (t' := s1.toks) fun b o e => Heap.get?_push_of_some _ e, turn_tuple a _, ⟨_, Heap.get?_push_size _ rfl, rfl, rfl⟩, fun b hb => ?_, q⟩
    have e : b = s1.heap.objs.size := by simpa using hb
    subst e
    exact I1.fpOk (Nat.le_refl _) (I1.hok.fresh (Nat.le_refl _))
  · subst e
    obtain ⟨t, rfl⟩ := r1
    cases ha : z.cps.all (· < 128)
    · exact wpAny_pyIter_wide ha (pi_one (tk := s1.toks) I1 _ (turn_str _ z t "str_iterator" (.inr rfl)) ⟨_, Heap.get?_push_size _ rfl, rfl, rfl⟩ q)
    · exact wpAny_pyIter_ascii ha (pi_one (tk := s1.toks) I1 _ (turn_str _ z t "str_ascii_iterator" (.inl rfl)) ⟨_, Heap.get?_push_size _ rfl, rfl, rfl⟩ q)
def charD (c : Nat) : D := .str ⟨#[c]⟩
def itemsOf : D → Option (List D)
  | .list xs => some xs
  | .tuple xs => some xs
  | .str z => some (z.cps.toList.map charD)
  | .dict kvs => some (kvs.map (·.1))
  | _ => none
def t3seqI (te : TE3) : TI3 := fun E ρ Q => te E ρ fun r ρ1 => ∃ xs ρ2, (frzR ρ1 r).bind (fun p => (itemsOf p.1).map fun xs => (xs, p.2)) = some (xs, ρ2) ∧ Q xs ρ2
theorem vals_get_inj {K : PySem.W.Frag} {H : Hp} {a : Addr} {xs : List V} (h : H a = some (.lst xs)) (Pinj : ∀ ys, SqL K H a ys → ys = xs) : True := trivial
theorem i3seq {tg l : Expr} {tl : TE3} (hl : PE3 X E l tl) : PI3 X E tg l (t3seqI tl) := by
  refine ⟨fun pins s σ H R I hw => ?_⟩
  obtain ⟨F, ρ, T, Q3, h, cv, q, k⟩ := hw
  refine (pi_any hl).run pins s σ H R I ⟨F, ρ, T, _, h, cv, q, fun r ρ1 v H1 ⟨xs0, ρ2, e1, q1⟩ h1 => ?_⟩
  cases hf : frzR ρ1 r with
  | none => rw [hf] at e1; cases e1
  | some p =>
    rw [hf] at e1
    cases hx : itemsOf p.1 with
    | none => simp [hx] at e1
    | some xs =>
      simp [hx] at e1
      obtain ⟨rfl, rfl⟩ := e1
      have h2 : St3 X.K F p.2 σ ([(v, .d p.1)] ++ T) H1 := h1.frz hf
      have nT : noAts [(v, Rs.d p.1)] := fun q hq => by
        have : q = (v, Rs.d p.1) := by simpa using hq
        subst this; rfl
      have vw : ∀ (ρ : En) (σ : L2.St) (T : Tm) (H : Hp), St3 X.K F ρ σ ([(v, .d p.1)] ++ T) H → Rp X.K H (okO F (cellsOf ρ σ ([(v, .d p.1)] ++ T))) v p.1 := fun ρ σ T H h =>
        h.s.rp (List.mem_append_left _ (List.mem_flatMap.mpr ⟨(v, .d p.1), List.mem_cons_self, by simp [tC1]⟩))
      have rp := vw _ _ _ _ h2
      have sqT : ∀ {H : Hp} {a : Addr} {vs : List V} {i : Nat} {x : V}, SqT X.K H a vs → vs[i]? = some x → (Itt X.K a).go i H := fun a b => ⟨_, _, a, b⟩
      cases hp : p.1 with
      | list ds =>
        rw [hp] at rp hx nT vw h2
        have ex : ds = xs := by simpa [itemsOf] using hx
        subst ex
        cases rp with
        | lst a1 a2 a3 =>
          rename_i a vs
          refine .inl ⟨a, rfl, ⟨vs, .inl (.inl a1)⟩, k _ _ _ _ _ q1 h2 nT fun ρ σ T H h => ?_⟩
          have := vw _ _ _ _ h
          cases this with
          | lst b1 b2 b3 =>
            rename_i ws
            refine ⟨fun j y hy => ?_, ⟨ws, .inl (.inl b1), by rw [b3.length]; exact Nat.le_refl _⟩⟩
            obtain ⟨w, g1, g2⟩ := b3.get hy
            refine ⟨⟨ws, w, .inl (.inl b1), g1⟩, fun x H' ⟨e, z⟩ => ⟨e, ?_⟩⟩
            have := z ws (.inl (.inl b1))
            rw [g1] at this; cases this
            exact g2
      | tuple ds =>
        rw [hp] at rp hx nT vw h2
        have ex : ds = xs := by simpa [itemsOf] using hx
        subst ex
        obtain ⟨a, vs, rfl, a1, a3⟩ := Rp.tup_inv rp
        refine .inr (.inl ⟨a, rfl, ⟨vs, a1⟩, k _ _ _ _ _ q1 h2 nT fun ρ σ T H h => ?_⟩)
        obtain ⟨a', ws, ea, b1, b3⟩ := Rp.tup_inv (vw _ _ _ _ h)
        cases ea
        refine ⟨fun j y hy => ?_, ⟨ws, b1, by rw [b3.length]; exact Nat.le_refl _⟩⟩
        obtain ⟨w, g1, g2⟩ := b3.get hy
        refine ⟨⟨ws, w, b1, g1⟩, fun x H' ⟨e, z⟩ => ⟨e, ?_⟩⟩
        have := z ws b1
        rw [g1] at this; cases this
        exact g2
      | str zs =>
        rw [hp] at rp hx nT vw h2
        have ex : zs.cps.toList.map charD = xs := by simpa [itemsOf] using hx
        subst ex
        cases Rp.str_inv rp
        refine .inr (.inr ⟨zs, rfl, k _ _ _ _ _ q1 h2 nT fun ρ σ T H h => ⟨fun j y hy => ?_, ?_⟩⟩)
        · rw [List.getElem?_map] at hy
          cases hc : zs.cps.toList[j]? with
          | none => rw [hc] at hy; cases hy
          | some c =>
            rw [hc] at hy
            have ey : charD c = y := by simpa using hy
            subst ey
            have hlt : j < zs.cps.size := by
              have := (List.getElem?_eq_some_iff.mp hc).1
              simpa using this
            refine ⟨hlt, fun x H' ⟨e, c', g1, g2⟩ => ⟨e, ?_⟩⟩
            have : zs.cps[j]? = some c := by simpa using hc
            rw [this] at g1; cases g1
            subst g2
            exact .str _
        · show zs.cps.size ≤ _
          simp
      | dict kvs =>
        rw [hp] at rp hx nT vw h2
        have ex : kvs.map (·.1) = xs := by simpa [itemsOf] using hx
        subst ex
        generalize ed : PyData.dict kvs = dd at rp
        cases rp with
        | scr q0 =>
          rename_i a ns
          have ek : kvs = ns.map fun n => (.int n, .none) := PyData.dict.inj ed
          subst ek
          refine .inl ⟨a, rfl, ⟨_, q0.sq⟩, k _ _ _ _ _ q1 h2 nT fun ρ σ T H h => ?_⟩
          obtain ⟨a', ea, b1⟩ := Rp.scr_inv (ns := ns) (vw _ _ _ _ h)
          cases ea
          refine ⟨fun j y hy => ?_, ⟨_, b1.sq, by simp⟩⟩
          simp only [List.map_map, List.getElem?_map] at hy
          cases hc : ns[j]? with
          | none => rw [hc] at hy; cases hy
          | some n =>
            rw [hc] at hy
            have ey : PyData.int n = y := by simpa using hy
            subst ey
            have g1 : (ns.map V.int)[j]? = some (.int n) := by rw [List.getElem?_map, hc]; rfl
            refine ⟨⟨_, _, b1.sq, g1⟩, fun x H' ⟨e, z⟩ => ⟨e, ?_⟩⟩
            have := z _ b1.sq
            rw [g1] at this; cases this
            exact .int n
        | _ => cases ed
      | _ => rw [hp] at hx; cases hx
/-- lo, lo + c, .. -/
def rngD (lo c : Int) (n : Nat) : List D := (List.range n).map fun i => .int (lo + (i : Nat) * c)
theorem rngD_get {lo c : Int} {n k : Nat} {y : D} (h : (rngD lo c n)[k]? = some y) : k < n ∧ y = .int (lo + (k : Nat) * c) := by
  unfold rngD at h
  rw [List.getElem?_map] at h
  by_cases hk : k < n
  · rw [List.getElem?_range hk] at h
    exact ⟨hk, by simpa using h.symm⟩
  · rw [List.getElem?_eq_none (by simpa using hk)] at h; cases h
def asI : Rs → Option Int
  | .d (.int i) => some i
  | _ => none
theorem asI_eq {r : Rs} {i : Int} (h : asI r = some i) : r = .d (.int i) := by
  unfold asI at h
  split at h
  · cases h; rfl
  · cases h
def rng1 (rs : List Rs) : Option Int := match rs with
  | [r] => asI r
  | _ => none
def t3rng1 (ta : TA3) : TI3 := fun E ρ Q => ta E ρ fun rs ρ1 => ∃ j, rng1 rs = some j ∧ (-(2 ^ 62) ≤ j ∧ j < 2 ^ 62) ∧ Q (rngD 0 1 j.toNat) ρ1
theorem rng1_eq {rs : List Rs} {j : Int} (h : rng1 rs = some j) : rs = [.d (.int j)] := by
  unfold rng1 at h
  split at h
  · rw [asI_eq h]
  · cases h
theorem i3rng1 {tg a : Expr} {ta : TA3} {p : Pos} (hg : Gl X "range") (hm : X.mg "range" = none) (ha : PA3 X E [a] ta) (hs : starEach [a] X.env = [(false, eval a X.env)] := by rfl) : PI3 X E tg (.Call (.Name "range" p) [a] [] pos) (t3rng1 ta) :=
  piImp (pi_range1 hg hm ha hs) fun σ H R ⟨F, ρ, T, Q3, h, cv, q, k⟩ => ⟨F, ρ, T, _, h, cv, q, fun rs ρ1 vs H1 ⟨j, e1, b, q1⟩ hl h1 => by
    have e := rng1_eq e1
    subst e
    obtain ⟨v, rfl⟩ : ∃ v, vs = [v] := by
      cases vs with
      | nil => cases hl
      | cons v vs => cases vs with | nil => exact ⟨v, rfl⟩ | cons _ _ => cases hl
    cases Rp.int_inv (h1.view (v := v) (r := .d (.int j)) List.mem_cons_self rfl)
    refine ⟨j, rfl, b.1, b.2, k _ _ [] _ _ q1 h1.pop (fun q hq => by cases hq) fun ρ σ T H h => ⟨fun i y hy => ?_, ?_⟩⟩
    · obtain ⟨g1, g2⟩ := rngD_get hy
      subst g2
      refine ⟨g1, fun x H' ⟨e, z⟩ => ⟨e, ?_⟩⟩
      subst z
      have : (0 : Int) + (i : Nat) * 1 = 0 + (i : Nat) := by omega
      rw [this]
      exact .int _
    · show j.toNat ≤ _
      simp [rngD]⟩
def rng2 (rs : List Rs) : Option (Int × Int) := match rs with
  | [r, r'] => (asI r).bind fun i => (asI r').map fun j => (i, j)
  | _ => none
theorem rng2_eq {rs : List Rs} {p : Int × Int} (h : rng2 rs = some p) : rs = [.d (.int p.1), .d (.int p.2)] := by
  unfold rng2 at h
  split at h
  · rename_i r r'
    cases h1 : asI r with
    | none => rw [h1] at h; cases h
    | some i =>
      cases h2 : asI r' with
      | none => simp [h1, h2] at h
      | some j => simp [h1, h2] at h; rw [asI_eq h1, asI_eq h2, ← h]
  · cases h
def t3rng2 (ta : TA3) : TI3 := fun E ρ Q => ta E ρ fun rs ρ1 => ∃ p, rng2 rs = some p ∧ (-(2 ^ 62) ≤ p.1 ∧ p.1 < 2 ^ 62 ∧ -(2 ^ 62) ≤ p.2 ∧ p.2 < 2 ^ 62) ∧ Q (rngD p.1 1 (p.2 - p.1).toNat) ρ1
theorem two_vs {vs : List V} {a b : Rs} (hl : vs.length = [a, b].length) : ∃ v w, vs = [v, w] := by
  cases vs with
  | nil => cases hl
  | cons v vs => cases vs with
    | nil => cases hl
    | cons w vs => cases vs with | nil => exact ⟨v, w, rfl⟩ | cons _ _ => cases hl
theorem i3rng2 {tg a b : Expr} {ta : TA3} {p : Pos} (hg : Gl X "range") (hm : X.mg "range" = none) (ha : PA3 X E [a, b] ta) (hs : starEach [a, b] X.env = [(false, eval a X.env), (false, eval b X.env)] := by rfl) (hs2 : starEach [b] X.env = [(false, eval b X.env)] := by rfl) : PI3 X E tg (.Call (.Name "range" p) [a, b] [] pos) (t3rng2 ta) :=
  piImp (pi_range2 hg hm ha hs hs2) fun σ H R ⟨F, ρ, T, Q3, h, cv, q, k⟩ => ⟨F, ρ, T, _, h, cv, q, fun rs ρ1 vs H1 ⟨⟨i, j⟩, e1, b, q1⟩ hl h1 => by
    have e := rng2_eq e1
    subst e
    obtain ⟨v, w, rfl⟩ := two_vs hl
    cases Rp.int_inv (h1.view (v := v) (r := .d (.int i)) List.mem_cons_self rfl)
    cases Rp.int_inv (h1.view (v := w) (r := .d (.int j)) (List.mem_cons_of_mem _ List.mem_cons_self) rfl)
    refine ⟨i, j, rfl, b, k _ _ [] _ _ q1 h1.pop.pop (fun q hq => by cases hq) fun ρ σ T H h => ⟨fun n y hy => ?_, ?_⟩⟩
    · obtain ⟨g1, g2⟩ := rngD_get hy
      subst g2
      refine ⟨g1, fun x H' ⟨e, z⟩ => ⟨e, ?_⟩⟩
      subst z
      have : i + (n : Nat) * 1 = i + (n : Nat) := by omega
      rw [this]
      exact .int _
    · show (j - i).toNat ≤ _
      simp [rngD]⟩
/-! ### for -/
inductive ForOb (xs : List D) (st : En) (step : Nat → D → En → (Nat → En → Prop) → Prop) (done : En → Prop) : Prop
  | mk (P : Nat → En → Prop) (h0 : P 0 st) (hs : ∀ k y ρ, xs[k]? = some y → P k ρ → step k y ρ P) (hd : ∀ ρ, P xs.length ρ → done ρ)
  | no (h : False)
def t3for (g : G3) (ti : TI3) (tb : TS3) : TS3 := fun E D ρ => ti E ρ fun xs ρ1 => ForOb xs ρ1 (fun k y ρ' P => ∃ ρ2, g.f y ρ' = some ρ2 ∧ tb E { D with nx := P (k + 1), ct := P (k + 1), bk := D.nx } ρ2) D.nx
theorem noAts.app {T T' : Tm} (h : noAts T) (h' : noAts T') : noAts (T ++ T') := fun p hp => (List.mem_append.mp hp).elim (h p) (h' p)
theorem s3for {tg iter : Expr} {body : List Stmt} {ti : TI3} {g : G3} {tb : TS3} (hp : PassesOwn (model X.prog X.w) X.A X.env X.xe) (hc : X.calm = true) (hi : PI3 X E tg iter ti) (hg : PG3 X tg g) (hb : PSs3 X E body tb)
    (hs : ∀ x, foldedSetIterable iter X.env x = pure x := by intro _; rfl) : PS3 X E (.For tg iter body [] pos) (t3for g ti tb) :=
  psImp (ps_for hp hc hi hg hb hs) fun D σ H ⟨F, ρ, T, D3, h, hn, cv, q, c⟩ => ⟨F, ρ, T, _, h, cv, q, fun xs ρ1 T' H1 J ob h1 hn' wk => by
    cases ob with
    | no f => exact f.elim
    | mk P p0 turn fin =>
    refine ⟨fun i m σ H => m = xs.length - i ∧ i ≤ xs.length ∧ ∃ ρ, St3 X.K F ρ σ (T' ++ T) H ∧ P i ρ, ⟨xs.length, by simp, Nat.zero_le _, ρ1, h1, p0⟩, ?_⟩
    rintro i m σ H ⟨rfl, hi, ρ, h, p⟩
    have w := wk _ _ _ _ h
    by_cases hlt : i < xs.length
    · have hy : xs[i]? = some xs[i] := List.getElem?_eq_getElem hlt
      obtain ⟨go, yld⟩ := w.1 i _ hy
      refine .inr ⟨go, fun σ' H' => ∃ ρ, St3 X.K F ρ σ' (T' ++ T) H' ∧ P (i + 1) ρ, fun σ' H' z => ⟨xs.length - (i + 1), by omega, rfl, hlt, z⟩, fun x H' hyl => ?_⟩
      obtain ⟨e, rp⟩ := yld x H' hyl
      subst e
      obtain ⟨ρ2, eg, q2⟩ := turn i _ ρ hy p
      refine ⟨F, ρ, T' ++ T, xs[i], ρ2, h.push rp, hn'.app hn, eg, fun σ' h' hl _ => ?_⟩
      exact ⟨F, ρ2, T' ++ T, _, h', hn'.app hn, cv, q2, fun ρ' σ' H' z h' => ⟨ρ', h', z⟩, fun r ρ' σ' v H' z h' => c.rt _ _ _ _ _ z h'.drop2, fun ρ' σ' H' z h' => c.nx _ _ _ z h'.drops, fun ρ' σ' H' z h' => ⟨ρ', h', z⟩⟩
    · have e : i = xs.length := by omega
      subst e
      exact .inl ⟨w.2, c.nx _ _ _ (fin _ p) h.drops⟩⟩
end
end L3

namespace L3
open PySem PySem.Spec PyProof.Rows L2
inductive Rlx : List Cell → List Cell → Prop
  | nil : Rlx [] []
  | keep {C C' : List Cell} (c : Cell) : Rlx C C' → Rlx (c :: C) (c :: C')
  | no {C C' : List Cell} (c : Cell) (w : Option V) : Rlx C C' → Rlx (c :: C) ((w, .no) :: C')
theorem ownC_no (w : Option V) : ownC (w, .no) = [] := by
  cases w with
  | none => rfl
  | some v => cases v <;> rfl
theorem Rlx.sub : ∀ {C C' : List Cell}, Rlx C C' → (own C').Sublist (own C) ∧ ∀ c ∈ C', c ∈ C ∨ c.2 = .no
  | _, _, .nil => ⟨List.Sublist.refl _, fun _ h => by cases h⟩
  | _, _, .keep c t => by
    obtain ⟨h1, h2⟩ := t.sub
    refine ⟨List.Sublist.append (List.Sublist.refl _) h1, fun c' hc => ?_⟩
    rcases List.mem_cons.mp hc with z | z
    · exact .inl (by rw [z]; exact List.mem_cons_self)
    · exact (h2 c' z).imp (List.mem_cons_of_mem _) id
  | _, _, .no c w t => by
    obtain ⟨h1, h2⟩ := t.sub
    refine ⟨?_, fun c' hc => ?_⟩
    · show (ownC (w, .no) ++ own _).Sublist (ownC c ++ own _)
      rw [ownC_no]
      exact h1.trans (List.sublist_append_right _ _)
    · rcases List.mem_cons.mp hc with z | z
      · exact .inr (by rw [z])
      · exact (h2 c' z).imp (List.mem_cons_of_mem _) id
theorem Rlx.refl : ∀ C : List Cell, Rlx C C
  | [] => .nil
  | c :: C => .keep c (Rlx.refl C)
theorem Rlx.app {C1 C1' C2 C2' : List Cell} (h : Rlx C1 C1') (h' : Rlx C2 C2') : Rlx (C1 ++ C2) (C1' ++ C2') := by
  induction h with
  | nil => exact h'
  | keep c _ ih => exact .keep c ih
  | no c w _ ih => exact .no c w ih
theorem S3.relax {K : PySem.W.Frag} {F : F3} {C C' : List Cell} {H : Hp} (h : S3 K F C H) (r : Rlx C C') : S3 K F C' H := by
  obtain ⟨h1, h2⟩ := r.sub
  refine ⟨h.nd.sublist h1, fun c hc => ?_, h.kp, h.ar⟩
  rcases h2 c hc with z | z
  · exact (h.ok c z).mono (fun b k => ⟨k.1, fun hb => k.2 (h1.subset hb)⟩) fun _ _ z => z
  · obtain ⟨w, s⟩ := c
    have : s = .no := z
    subst this
    exact trivial
theorem rlx_zip : ∀ {σ σ' : L2.St} {ρ ρ' : En}, σ.length = ρ.length → σ'.length = σ.length → ρ'.length = ρ.length → (∀ i : Nat, ρ'[i]? = some .no ∨ (ρ'[i]? = ρ[i]? ∧ σ'[i]? = σ[i]?)) → Rlx (List.zip σ ρ) (List.zip σ' ρ')
  | [], [], [], [], _, _, _, _ => .nil
  | w :: σ, w' :: σ', c :: ρ, c' :: ρ', h1, h2, h3, h => by
    have t := rlx_zip (σ := σ) (σ' := σ') (ρ := ρ) (ρ' := ρ') (by simpa using h1) (by simpa using h2) (by simpa using h3) fun i => by simpa using h (i + 1)
    rcases h 0 with z | ⟨z1, z2⟩
    · have : c' = .no := by simpa using z
      subst this
      exact .no _ _ t
    · have e1 : c' = c := by simpa using z1
      have e2 : w' = w := by simpa using z2
      subst e1 e2
      exact .keep _ t
  | [], _ :: _, _, _, _, h, _, _ => by cases h
  | _ :: _, [], _, _, _, h, _, _ => by cases h
  | [], [], _ :: _, _, h, _, _, _ => by cases h
  | _ :: _, _ :: _, [], _, h, _, _, _ => by cases h
  | [], [], [], _ :: _, _, _, h, _ => by cases h
  | _ :: _, _ :: _, _ :: _, [], _, _, h, _ => by cases h
section
variable {K : PySem.W.Frag} {F : F3} {ρ ρ' : En} {σ σ' : L2.St} {T T' : Tm} {H H' : Hp} {v : V} {x z : D} {r : Rs} {i : Nat}
theorem St3.relax (h : St3 K F ρ σ T H) (hn : noAts T) (h2 : σ'.length = σ.length) (h3 : ρ'.length = ρ.length) (hr : ∀ i : Nat, ρ'[i]? = some .no ∨ (ρ'[i]? = ρ[i]? ∧ σ'[i]? = σ[i]?)) : St3 K F ρ' σ' T H :=
  ⟨by rw [h2, h3]; exact h.len, h.s.relax ((Rlx.refl _).app (rlx_zip h.len h2 h3 hr)), hn.al⟩
end
def clr : List Nat → En → En
  | [], ρ => ρ
  | v :: vs, ρ => (clr vs ρ).set v .no
theorem clr_len : ∀ (vs : List Nat) (ρ : En), (clr vs ρ).length = ρ.length
  | [], _ => rfl
  | v :: vs, ρ => by unfold clr; rw [List.length_set, clr_len vs ρ]
theorem clr_get : ∀ (vs : List Nat) (ρ : En) (i : Nat), (i ∈ vs → i < ρ.length → (clr vs ρ)[i]? = some .no) ∧ (i ∉ vs → (clr vs ρ)[i]? = ρ[i]?)
  | [], ρ, i => ⟨fun h => (by cases h), fun _ => rfl⟩
  | v :: vs, ρ, i => by
    obtain ⟨h1, h2⟩ := clr_get vs ρ i
    unfold clr
    refine ⟨fun h hl => ?_, fun h => ?_⟩
    · by_cases e : v = i
      · subst e
        rw [List.getElem?_set_self (by rw [clr_len]; exact hl)]
      · rw [List.getElem?_set_ne e]
        rcases List.mem_cons.mp h with z | z
        · exact absurd z.symm e
        · exact h1 z hl
    · rw [List.mem_cons, not_or] at h
      rw [List.getElem?_set_ne (fun e => h.1 e.symm)]
      exact h2 h.2
theorem wipe_out' {σ : L2.St} {i : Nat} {vs : List Nat} (h : i ∉ vs) : (wipe σ vs)[i]? = σ[i]? := wipe_out h
def dropAt (T : Tm) : Tm := T.filter fun p => !isAt p.2
theorem dropAt_no (T : Tm) : noAts (dropAt T) := fun p hp => by
  have := (List.mem_filter.mp hp).2
  simpa using this
theorem tCs_drop : ∀ T : Tm, tCs (dropAt T) = tCs T
  | [] => rfl
  | (v, r) :: T => by
    have ih := tCs_drop T
    cases r with
    | «at» i =>
      have e : dropAt ((v, .at i) :: T) = dropAt T := by simp [dropAt, isAt]
      rw [e, ih]; rfl
    | d x =>
      have e : dropAt ((v, .d x) :: T) = (v, .d x) :: dropAt T := by simp [dropAt, isAt]
      rw [e]
      show tC1 _ ++ tCs (dropAt T) = tC1 _ ++ tCs T
      rw [ih]
    | nw o =>
      have e : dropAt ((v, .nw o) :: T) = (v, .nw o) :: dropAt T := by simp [dropAt, isAt]
      rw [e]
      show tC1 _ ++ tCs (dropAt T) = tC1 _ ++ tCs T
      rw [ih]
section
variable {K : PySem.W.Frag} {F : F3} {ρ ρ' : En} {σ σ' : L2.St} {T T' : Tm} {H H' : Hp} {v : V} {x z : D} {r : Rs} {i : Nat}
theorem St3.dropAt (h : St3 K F ρ σ T H) : St3 K F ρ σ (dropAt T) H := ⟨h.len, by rw [tCs_drop]; exact h.s, (dropAt_no T).al⟩
theorem St3.addAt {T1 : Tm} (h : St3 K F ρ σ (T1 ++ L3.dropAt T) H) (al : ∀ p ∈ T, ∀ j, p.2 = .at j → σ[j]? = some (some p.1)) : St3 K F ρ σ (T1 ++ T) H := by
  have e : ∀ T2 : Tm, tCs (T1 ++ T2) = tCs T1 ++ tCs T2 := fun T2 => by simp [tCs]
  refine ⟨h.len, ?_, fun p hp j ej => ?_⟩
  · have s := h.s
    rw [e, tCs_drop] at s
    rw [e]; exact s
  · rcases List.mem_append.mp hp with z | z
    · exact h.al p (List.mem_append_left _ z) j ej
    · exact al p z j ej
theorem St3.clr (h : St3 K F ρ σ T H) (hn : noAts T) (vs : List Nat) : St3 K F (L3.clr vs ρ) σ T H :=
  h.relax hn rfl (clr_len _ _) fun i => by
    by_cases hv : i ∈ vs
    · by_cases hl : i < ρ.length
      · exact .inl ((clr_get vs ρ i).1 hv hl)
      · exact .inr ⟨by rw [List.getElem?_eq_none (by rw [clr_len]; omega), List.getElem?_eq_none (by omega)], rfl⟩
    · exact .inr ⟨(clr_get vs ρ i).2 hv, rfl⟩
theorem St3.wiped (h : St3 K F ρ σ T H) (hn : noAts T) (vs : List Nat) (hw : wipe σ' vs = wipe σ vs) : St3 K F (L3.clr vs ρ) σ' T H := by
  have hl : σ'.length = σ.length := by
    have := congrArg List.length hw
    rwa [wipe_length, wipe_length] at this
  refine h.relax hn hl (clr_len _ _) fun i => ?_
  by_cases hv : i ∈ vs
  · by_cases hl' : i < ρ.length
    · exact .inl ((clr_get vs ρ i).1 hv hl')
    · exact .inr ⟨by rw [List.getElem?_eq_none (by rw [clr_len]; omega), List.getElem?_eq_none (by omega)], by rw [List.getElem?_eq_none (by have := h.len; omega), List.getElem?_eq_none (by have := h.len; omega)]⟩
  · exact .inr ⟨(clr_get vs ρ i).2 hv, by rw [← wipe_out' (σ := σ') hv, ← wipe_out' (σ := σ) hv, hw]⟩
end
theorem wipe_wipe {σ : L2.St} {vs : List Nat} : wipe (wipe σ vs) vs = wipe σ vs := by
  apply List.ext_getElem?
  intro i
  by_cases hv : i ∈ vs
  · have key : ∀ σ : L2.St, (wipe σ vs)[i]? = if i < σ.length then some none else none := fun σ => by
      by_cases hl : i < σ.length
      · rw [if_pos hl]
        cases h : (wipe σ vs)[i]? with
        | none => rw [List.getElem?_eq_none_iff, wipe_length] at h; omega
        | some o =>
          cases o with
          | none => rfl
          | some v => exact absurd hv (wipe_some h).2
      · rw [if_neg hl, List.getElem?_eq_none (by rw [wipe_length]; omega)]
    rw [key, key, wipe_length]
  · rw [wipe_out' hv]
/-! ### comprehensions -/
abbrev noE : Exc → Prop := fun _ => False
inductive LcOb (xs : List D) (st : En) (step : Nat → D → List D → En → (Nat → List D → En → Prop) → Prop) (done : List D → En → Prop) : Prop
  | mk (P : Nat → List D → En → Prop) (h0 : P 0 [] st) (hs : ∀ k y acc ρ, xs[k]? = some y → P k acc ρ → step k y acc ρ P) (hd : ∀ acc ρ, P xs.length acc ρ → done acc ρ)
  | no (h : False)
def t3lc (g : G3) (ti : TI3) (tt : TT3) (te : TE3) (vs : List Nat) : TE3 := fun E ρ Q => ti E ρ fun xs ρ1 => LcOb xs (clr vs ρ1)
  (fun k _y acc ρ' P => ∃ ρ2, g.f _y (clr vs ρ') = some ρ2 ∧ tt noE ρ2 fun b ρ3 =>
    if b = true then te noE ρ3 fun r ρ4 => ∃ z ρ5, frzR ρ4 r = some (z, ρ5) ∧ acc.length < sizeLine ∧ P (k + 1) (acc ++ [z]) (clr vs ρ5) else P (k + 1) acc (clr vs ρ3))
  fun acc ρ' => Q (.nw (.lst acc)) (clr vs ρ')
theorem cv0 {K : PySem.W.Frag} {F : F3} : Cv K { F with E3 := noE } E0 := ⟨fun _ _ h => h.elim, fun _ _ _ _ _ h => h.elim⟩
theorem St3.noE {K : PySem.W.Frag} {F : F3} {ρ : En} {σ : L2.St} {T : Tm} {H : Hp} (h : St3 K F ρ σ T H) : St3 K { F with E3 := L3.noE } ρ σ T H :=
  ⟨h.len, ⟨h.s.nd, fun c hc => (h.s.ok c hc).mono (F' := { F with E3 := L3.noE }) (fun _ k => k) fun _ s z => by cases s <;> exact z, h.s.kp, h.s.ar⟩, h.al⟩
theorem St3.unE {K : PySem.W.Frag} {F : F3} {ρ : En} {σ : L2.St} {T : Tm} {H : Hp} (h : St3 K { F with E3 := L3.noE } ρ σ T H) : St3 K F ρ σ T H :=
  ⟨h.len, ⟨h.s.nd, fun c hc => (h.s.ok c hc).mono (F' := F) (fun _ k => k) fun _ s z => by cases s <;> exact z, h.s.kp, h.s.ar⟩, h.al⟩
section
variable {X : Cx} {E : XK} {pos : Pos}
theorem upLc {K : PySem.W.Frag} {g : G3} {ti : TI3} {tt : TT3} {te : TE3} {vs : List Nat} {σ : L2.St} {H : Hp} {Q : VK} (hg : ∀ i ∈ g.ix, i ∈ vs) (h : up K E (t3lc g ti tt te vs) σ H Q) :
    tLc (upI K E ti) (upG K g) (upT K E0 tt) (up K E0 te) vs σ H Q := by
  obtain ⟨F, ρ, T, Q3, h, cv, q, k⟩ := h
  refine ⟨F, ρ, T, _, h, cv, q, fun xs ρ1 T' H1 J ob h1 hn' wk D hD => ?_⟩
  cases ob with
  | no f => exact f.elim
  | mk P p0 turn fin =>
  let T0 : Tm := T' ++ dropAt T
  have hn0 : noAts T0 := hn'.app (dropAt_no T)
  have al1 : ∀ p ∈ T, ∀ j, p.2 = .at j → σ[j]? = some (some p.1) := fun p hp => h1.al p (List.mem_append_right _ hp)
  have e1 : dropAt (T' ++ T) = T0 := by
    have : dropAt T' = T' := List.filter_eq_self.mpr fun p hp => by simp [hn' p hp]
    show List.filter _ (T' ++ T) = _
    rw [List.filter_append]
    show dropAt T' ++ dropAt T = _
    rw [this]
  have h10 : St3 K F ρ1 σ T0 H1 := by rw [← e1]; exact h1.dropAt
  have nD : ∀ acc, noAts ((V.ref D, .nw (.lst acc)) :: T0) := fun acc => hn0.cons rfl
  refine ⟨fun i m H => m = xs.length - i ∧ i ≤ xs.length ∧ ∃ ρ acc, St3 K F (clr vs ρ) σ ((.ref D, .nw (.lst acc)) :: T0) H ∧ P i acc ρ, ⟨xs.length, by simp, Nat.zero_le _, clr vs ρ1, [], ?_, p0⟩, ?_⟩
  · have z := (h10.clr hn0 vs).ret (z := .list []) (.lst hD .nil)
    exact z.clr (nD []) vs
  · rintro i m H ⟨rfl, hi, ρ, acc, h, p⟩
    have w := wk (clr vs ρ) σ ((.ref D, .nw (.lst acc)) :: dropAt T) H (h.perm (List.perm_middle.symm))
    by_cases hlt : i < xs.length
    · have hy : xs[i]? = some xs[i] := List.getElem?_eq_getElem hlt
      obtain ⟨go, yld⟩ := w.1 i _ hy
      refine .inr ⟨go, fun H' => ∃ ρ acc, St3 K F (clr vs ρ) σ ((.ref D, .nw (.lst acc)) :: T0) H' ∧ P (i + 1) acc ρ, fun H' z => ⟨xs.length - (i + 1), by omega, rfl, hlt, z⟩, fun x H' hyl => ?_⟩
      obtain ⟨e, rp⟩ := yld x H' hyl
      subst e
      obtain ⟨ρ2, eg, q2⟩ := turn i _ acc ρ hy p
      have hw : St3 K F (clr vs ρ) (wipe σ vs) ((.ref D, .nw (.lst acc)) :: T0) H' := by
        have := h.wiped (σ' := wipe σ vs) (nD acc) vs wipe_wipe
        refine this.relax (nD acc) rfl (by rw [clr_len, clr_len, clr_len]) fun j => .inr ⟨?_, rfl⟩
        by_cases hv : j ∈ vs
        · by_cases hl : j < ρ.length
          · rw [(clr_get vs ρ j).1 hv hl, (clr_get vs (clr vs ρ) j).1 hv (by rw [clr_len]; exact hl)]
          · rw [List.getElem?_eq_none (by rw [clr_len]; omega), List.getElem?_eq_none (by rw [clr_len, clr_len]; omega)]
        · rw [(clr_get vs (clr vs ρ) j).2 hv]
      have rp' : Rp K H' (okO F (cellsOf (clr vs ρ) (wipe σ vs) ((V.ref D, .nw (.lst acc)) :: T0))) x xs[i] := by
        refine rp_keep (fun _ _ q _ => q) (fun b kb => ⟨kb.1, fun hb => kb.2 ?_⟩) rp
        have sub : (own (cellsOf (clr vs ρ) (wipe σ vs) ((V.ref D, Rs.nw (.lst acc)) :: T0))).Sublist (own (cellsOf (clr vs ρ) σ ((V.ref D, .nw (.lst acc)) :: T0))) := by
          refine Rlx.sub ((Rlx.refl _).app (rlx_zip h.len (wipe_length _ _) rfl fun j => ?_)) |>.1
          by_cases hv : j ∈ vs
          · by_cases hl : j < ρ.length
            · exact .inl ((clr_get vs ρ j).1 hv hl)
            · exact .inr ⟨rfl, by rw [List.getElem?_eq_none (by rw [wipe_length]; have := h.len; rw [clr_len] at this; omega), List.getElem?_eq_none (by have := h.len; rw [clr_len] at this; omega)]⟩
          · exact .inr ⟨rfl, wipe_out' hv⟩
        have m := sub.subset hb
        refine (List.Perm.flatMap_right ownC ?_).mem_iff.mp m
        exact List.Perm.append_right _ (List.Perm.flatMap_right tC1 List.perm_middle.symm)
      refine ⟨{ F with E3 := noE }, clr vs ρ, (.ref D, .nw (.lst acc)) :: T0, xs[i], ρ2, (hw.push rp').noE, nD acc, eg, fun σ2 h2 hl2 hx2 => ⟨?_, { F with E3 := noE }, ρ2, _, _, h2, cv0, q2, fun b ρ3 H3 q3 h3 => ?_⟩⟩
      · have e : ∀ j, j ∉ vs → σ2[j]? = (wipe σ vs)[j]? := fun j hj => hx2 j fun z => hj (hg j z)
        apply List.ext_getElem?
        intro j
        by_cases hv : j ∈ vs
        · have key : ∀ σ : L2.St, (wipe σ vs)[j]? = if j < σ.length then some none else none := fun σ => by
            by_cases hl : j < σ.length
            · rw [if_pos hl]
              cases h : (wipe σ vs)[j]? with
              | none => rw [List.getElem?_eq_none_iff, wipe_length] at h; omega
              | some o =>
                cases o with
                | none => rfl
                | some v => exact absurd hv (wipe_some h).2
            · rw [if_neg hl, List.getElem?_eq_none (by rw [wipe_length]; omega)]
          rw [key, key, hl2, wipe_length]
        · rw [wipe_out' hv, e j hv]
      · have ew : wipe σ2 vs = wipe σ vs := by
          apply List.ext_getElem?
          intro j
          by_cases hv : j ∈ vs
          · have key : ∀ σ : L2.St, (wipe σ vs)[j]? = if j < σ.length then some none else none := fun σ => by
              by_cases hl : j < σ.length
              · rw [if_pos hl]
                cases h : (wipe σ vs)[j]? with
                | none => rw [List.getElem?_eq_none_iff, wipe_length] at h; omega
                | some o =>
                  cases o with
                  | none => rfl
                  | some v => exact absurd hv (wipe_some h).2
              · rw [if_neg hl, List.getElem?_eq_none (by rw [wipe_length]; omega)]
            rw [key, key, hl2, wipe_length]
          · rw [wipe_out' hv, hx2 j fun z => hv (hg j z), wipe_out' hv]
        cases b with
        | true =>
          rw [if_pos rfl] at q3
          refine iteT ⟨{ F with E3 := noE }, ρ3, _, _, h3, cv0, q3, fun r ρ4 v H4 ⟨z1, z2, ef, hsz, pz⟩ h4 => ?_⟩
          have h5 := St3.unE (h4.frz ef)
          -- the element goes to the list
          have h6 : St3 K F z2 σ2 ((V.ref D, .nw (.lst acc)) :: (v, .d z1) :: T0) H4 := h5.perm (List.Perm.swap _ _ _)
          obtain ⟨a, vsD, ea, eD, rD⟩ : Vw K H4 _ (V.ref D) (.list acc) := h6.view List.mem_cons_self rfl
          cases ea
          refine ⟨vsD, eD, by rw [rD.length]; exact hsz, clr vs z2, acc ++ [z1], ?_, pz⟩
          have s := h6.s
          have e2 : tCs ((V.ref D, Rs.nw (.lst acc)) :: (v, .d z1) :: T0) ++ List.zip σ2 z2 = (some (V.ref D), Sl.ow none (.lst acc)) :: (some v, .d z1) :: (tCs T0 ++ List.zip σ2 z2) := by simp [tCs, tC1]
          rw [e2] at s
          have rv : Rp K H4 (okO F ((some (V.ref D), Sl.ow none (.lst acc)) :: (some v, .d z1) :: (tCs T0 ++ List.zip σ2 z2))) v z1 := s.rp (List.mem_cons_of_mem _ List.mem_cons_self)
          have rD' : RpL K H4 (okO F ((some (V.ref D), Sl.ow none (.lst acc)) :: (some v, .d z1) :: (tCs T0 ++ List.zip σ2 z2))) vsD acc := by rw [← e2]; exact rD
          have s2 := s.write (o' := .lst (acc ++ [z1])) (u := .lst (vsD ++ [v])) trivial fun ok hok => (⟨vsD ++ [v], upd_same, (rpL_map hok rD').append (.cons (hok _ _ rv) .nil)⟩ : ∃ xs, upd H4 D (.lst (vsD ++ [v])) D = some (.lst xs) ∧ RpL K _ ok xs (acc ++ [z1]))
          have h7 : St3 K F z2 σ2 ((V.ref D, .nw (.lst (acc ++ [z1]))) :: (v, .d z1) :: T0) (upd H4 D (.lst (vsD ++ [v]))) := by
            refine ⟨h6.len, ?_, ((hn0.cons rfl).cons rfl).al⟩
            have e3 : tCs ((V.ref D, Rs.nw (.lst (acc ++ [z1]))) :: (v, .d z1) :: T0) ++ List.zip σ2 z2 = (some (V.ref D), Sl.ow none (.lst (acc ++ [z1]))) :: (some v, .d z1) :: (tCs T0 ++ List.zip σ2 z2) := by simp [tCs, tC1]
            rw [e3]; exact s2
          have h8 := (h7.perm (List.Perm.swap _ _ _)).pop
          exact (h8.wiped (σ' := σ) (nD _) vs ew.symm).clr (nD _) vs
        | false =>
          exact iteF ⟨clr vs ρ3, acc, ((St3.unE h3).wiped (σ' := σ) (nD _) vs ew.symm).clr (nD _) vs, by simpa using q3⟩
    · have e : i = xs.length := by omega
      subst e
      refine .inl ⟨w.2, k _ _ _ _ (fin acc ρ p) ?_⟩
      have z : St3 K F (clr vs ρ) σ (((.ref D, .nw (.lst acc)) :: T') ++ dropAt T) H := h
      have z2 := z.addAt (T := T) al1
      exact St3.drop2 z2
end
end L3

namespace L3
open PySem PySem.Spec PyProof.Rows L2
section
variable {X : Cx} {E : XK} {pos : Pos}
/-! ### comprehensions, as rules -/
def t3yes : TT3 := fun _ ρ Q => Q true ρ
abbrev PTs3 (X : Cx) (ifs : List Expr) (t : TT3) : Prop := PTs X ifs (upT X.K E0 t)
theorem ts3nil {X : Cx} : PTs3 X [] t3yes := ⟨fun pins s σ H Q I ⟨F, ρ, T, Q3, h, cv, q, k⟩ => pts_nil.run pins s σ H Q I (k _ _ _ q h)⟩
theorem ts3one {X : Cx} {c : Expr} {t : TT3} (h : PT3 X E0 c t) : PTs3 X [c] t := pts_one h
theorem p3lc {elt tg iter : Expr} {ifs : List Expr} {scope : Scope} {own : List (Str × Nat)} {ti : TI3} {g : G3} {tt : TT3} {te : TE3} (hc : X.calm = true) (hN : X.N.Nodup) (hi : PI3 X E tg iter ti) (ok : BlkOk X.N X.env.scope scope own) (hgx : ∀ i ∈ g.ix, i ∈ own.map (·.2))
    (hg : ∀ (s : Shared) (H : Hp) (C : Addr) (cl : List (Str × Addr)) (fp : List Addr), PG3 (X.blk s H scope (compEnvC scope cl C X.env) fp) tg g) (ht : ∀ (s : Shared) (H : Hp) (C : Addr) (cl : List (Str × Addr)) (fp : List Addr), PTs3 (X.blk s H scope (compEnvC scope cl C X.env) fp) ifs tt)
    (he : ∀ (s : Shared) (H : Hp) (C : Addr) (cl : List (Str × Addr)) (fp : List Addr), PE3 (X.blk s H scope (compEnvC scope cl C X.env) fp) E0 elt te) (hs : ∀ x, foldedSetIterable iter X.env x = pure x := by intro _; rfl) :
    PE3 X E (.ListComp elt [⟨tg, iter, ifs, 0⟩] scope pos) (t3lc g ti tt te (own.map (·.2))) :=
  peImp (pe_lc hc hN hi ok hg ht he hs) fun _ _ _ h => upLc hgx h
theorem s3setLc {i : Nat} {y : Str} {py : Pos} {elt tg iter : Expr} {ifs : List Expr} {scope : Scope} {own : List (Str × Nat)} {spos : Pos} {ti : TI3} {g : G3} {tt : TT3} {te : TE3} (hc : X.calm = true) (hN : X.N.Nodup) (hy : X.N[i]? = some y) (hyl : X.env.scope.names.lookup y = some .local)
    (hsw : swapsWith (.ListComp elt [⟨tg, iter, ifs, 0⟩] scope pos) (some (.Name y py)) spos.line X.env = pure true) (hi : PI3 X E tg iter ti) (ok : BlkOk X.N X.env.scope scope own) (hgx : ∀ i ∈ g.ix, i ∈ own.map (·.2))
    (hg : ∀ (s : Shared) (H : Hp) (C : Addr) (cl : List (Str × Addr)) (fp : List Addr), PG3 (X.blk s H scope (compEnvC scope cl C X.env) fp) tg g) (ht : ∀ (s : Shared) (H : Hp) (C : Addr) (cl : List (Str × Addr)) (fp : List Addr), PTs3 (X.blk s H scope (compEnvC scope cl C X.env) fp) ifs tt)
    (he : ∀ (s : Shared) (H : Hp) (C : Addr) (cl : List (Str × Addr)) (fp : List Addr), PE3 (X.blk s H scope (compEnvC scope cl C X.env) fp) E0 elt te) (hs : ∀ x, foldedSetIterable iter X.env x = pure x := by intro _; rfl) :
    PS3 X E (.Assign [.Name y py] (.ListComp elt [⟨tg, iter, ifs, 0⟩] scope pos) spos) (t3set i (t3lc g ti tt te (own.map (·.2)))) := by
  refine ⟨fun pins s σ H D I hw => ?_⟩
  obtain ⟨F, ρ, T, D3, h, hn, cv, q, c⟩ := hw
  have hlen : ∀ {ρ1 : En} {T1 : Tm} {H1 : Hp}, St3 X.K F ρ1 σ T1 H1 → i < ρ1.length := fun h1 => by rw [← h1.len, I.len]; exact (List.getElem?_eq_some_iff.mp hy).1
  refine (ps_setLc (i := i) (wi := upI X.K E ti) (g := upG X.K g) (tt := upT X.K E0 tt) (te := up X.K E0 te) hc hN hy hyl hsw hi ok hg ht he hs).run pins s σ H D I ?_
  refine upLc hgx ⟨F, ρ, T, _, h, cv, q, fun r ρ' v H' ⟨sl, ρ2, e1, q'⟩ h' => ?_⟩
  exact c.nx _ _ _ q' (h'.sto hn e1 (hlen h'))

/-! ### defs -/
structure Fn3 (P : Program) (w : World) (K : PySem.W.Frag) (mg : Str → Option Value) (base : Heap) (k : Nat) (x : Str) (n : Nat) (b : Option Nat) (sp : Sp3) : Prop where
  hb : ∀ j, b = some j → j < n
  ex : ∃ f fd ps, ps.length = n ∧ FnOk P w K mg base CX0 k f fd ps (prom K n b sp) ∧ mg x = some (.ref f) ∧ PySem.W.keepIn K (.ref f) = true ∧ Binds K fd ps []
theorem Cv.e0 {K : PySem.W.Frag} {F : F3} (h : Cv K F E) (hE : F.E3 = noE) : Cv K F E0 := ⟨fun C H' e => by rw [hE] at e; exact e.elim, fun C fs d H' vs e => by rw [hE] at e; exact e.elim⟩
theorem p3call {x : Str} {n k j : Nat} {b : Option Nat} {sp : Sp3} {p : Pos} {e : Expr} {es : List Expr} {t : TA3} (c : Fn3 X.prog X.w X.K X.mg X.base k x n b sp) (hr : Room j X.A) (hk : k ≤ j) (hg : Gl X x) (ha : PA3 X E0 (e :: es) t)
    (hdb : (x == ("__debug__" : Str)) = false := by decide) (he : starEach (e :: es) X.env = (false, eval e X.env) :: starEach es X.env := by rfl) (hpl : (backTo pos (starEach es X.env)).any (·.1) = false := by rfl) : PE3 X E0 (.Call (.Name x p) (e :: es) [] pos) (t3def n b sp t) := by
  obtain ⟨f, fd, ps, hps, F, hm, kp, hbi⟩ := c.ex
  refine peImp (pe_call (dvs := []) F (hr.mono hk) hg hm kp hbi .nil pass0 ha hdb he hpl) fun σ H Q ⟨F3', ρ, T, Q3, h, cv, q, kk⟩ => ?_
  refine ⟨F3', ρ, T, _, h, cv, q, fun rs ρ1 vs H1 ⟨ars, rs', ρ2, ep, hl0, q1⟩ hl h1 => ?_⟩
  show prom X.K n b sp (vs ++ []) H1 Q E0
  rw [List.append_nil]
  exact callProm (E := E0) (by rw [hl, hl0]) c.hb h1 hl ep cv q1 kk

def finR (ρ : En) : Rs → Option (Rs × En)
  | .d x => some (.d x, ρ)
  | .nw o => some (.nw o, ρ)
  | .at i => match ρ[i]? with
    | some (.d x) => some (.d x, ρ)
    | some (.ow none o) => some (.nw o, ρ.set i .no)
    | _ => none
def outB (b : Option Nat) (ρ : En) : Option Ob := match b with
  | none => some (.lst [])
  | some k => match ρ[k]? with
    | some (.ow (some k') o) => if k' = k then some o else none
    | _ => none
def endsOf (b : Option Nat) (Q3 : Rs → Ob → Prop) : En3 where
  nx := fun ρ => ∃ out, outB b ρ = some out ∧ Q3 (.d .none) out
  rt := fun r ρ => ∃ r' ρ', finR ρ r = some (r', ρ') ∧ ∃ out, outB b ρ' = some out ∧ Q3 r' out
theorem St3.fin {K : PySem.W.Frag} {F : F3} {ρ : En} {σ : L2.St} {H : Hp} {v : V} {r : Rs} {p : Rs × En} (h : St3 K F ρ σ [(v, r)] H) (e : finR ρ r = some p) : St3 K F p.2 σ [(v, p.1)] H ∧ isAt p.1 = false := by
  cases r with
  | d x => cases e; exact ⟨h, rfl⟩
  | nw o => cases e; exact ⟨h, rfl⟩
  | «at» i =>
    have hv := h.al _ List.mem_cons_self i rfl
    have e : (match ρ[i]? with
      | some (.d x) => some (.d x, ρ)
      | some (.ow none o) => some (Rs.nw o, ρ.set i .no)
      | _ => none) = some p := e
    split at e
    · rename_i x hx
      cases e
      obtain ⟨v', h1, h2⟩ := h.rpSlot hx
      rw [hv] at h1; cases h1
      have h0 := h.pop
      obtain ⟨v2, g1, g2⟩ := h0.rpSlot hx
      rw [hv] at g1; cases g1
      exact ⟨h0.push g2, rfl⟩
    · rename_i o ho
      cases e
      have h0 := h.pop
      obtain ⟨w, R, hw, pm, s, un⟩ := h0.slot ho
      rw [hv] at hw; cases hw
      have es : σ.set i (some v) = σ := set_same hv
      refine ⟨⟨by simp [h.len], ?_, fun q hq j ej => ?_⟩, rfl⟩
      · have e1 : tCs [(v, Rs.nw o)] ++ List.zip σ (ρ.set i .no) = (some v, Sl.ow none o) :: (tCs [] ++ List.zip σ (ρ.set i .no)) := by simp [tCs, tC1]
        rw [e1]
        have u := un (some v) .no
        rw [es] at u
        have s2 : S3 K F ((some v, .no) :: (some v, Sl.ow none o) :: (tCs [] ++ R)) H := s.addNo
        exact s2.perm ((List.Perm.swap _ _ _).trans (List.Perm.cons _ u.symm))
      · have : q = (v, Rs.nw o) := by simpa using hq
        subst this; cases ej
    · cases e
theorem St3.fin3 {K : PySem.W.Frag} {F : F3} {ρ : En} {σ : L2.St} {H : Hp} {v : V} {r : Rs} {b : Option Nat} {out : Ob} (h : St3 K F ρ σ [(v, r)] H) (hr : isAt r = false) (e : outB b ρ = some out) (ha : ∀ k a, F.arg k = some a → b = some k) : Fin3 K F b r out v H := by
  refine ⟨hr, ?_⟩
  have e1 : tCs [(v, r)] ++ List.zip σ ρ = tC1 (v, r) ++ List.zip σ ρ := by simp [tCs]
  cases b with
  | none =>
    have s := h.s
    rw [e1] at s
    have e2 : tC1 (v, r) ++ boC F none out = tC1 (v, r) := by simp [boC]
    rw [e2]
    exact S3.drop (C1 := List.zip σ ρ) (s.perm List.perm_append_comm)
  | some k =>
    have e : (match ρ[k]? with
      | some (.ow (some k') o) => if k' = k then some o else none
      | _ => none) = some out := e
    split at e
    · rename_i k' o ho
      split at e
      · rename_i hk
        cases e
        subst hk
        obtain ⟨w, R, hw, pm, s, un⟩ := h.slot ho
        have z : CellOk K F _ H (w, .ow (some k') out) := s.ok _ List.mem_cons_self
        cases w with
        | none => exact z.elim
        | some u =>
          cases u with
          | ref a =>
            have ea : F.arg k' = some a := z.2
            have e2 : boC F (some k') out = [(some (.ref a), .ow (some k') out)] := by simp [boC, ea]
            rw [e2]
            have e3 : tCs [(v, r)] ++ R = tC1 (v, r) ++ R := by simp [tCs]
            rw [e3] at s
            refine S3.drop (C1 := R) (s.perm ?_)
            exact ((List.perm_append_comm (l₁ := [_]) (l₂ := tC1 (v, r) ++ R)).trans (by
              rw [List.append_assoc]
              exact (List.perm_append_comm (l₁ := tC1 (v, r)) (l₂ := R ++ [_])).trans (by rw [List.append_assoc]; exact List.Perm.append_left _ (List.perm_append_comm)))).trans (List.Perm.refl _)
          | _ => exact z.elim
      · cases e
    · cases e
theorem S3.addNos {K : PySem.W.Frag} {F : F3} {C : List Cell} {H : Hp} (h : S3 K F C H) : ∀ m : Nat, S3 K F (C ++ List.zip (List.replicate m none) (List.replicate m .no)) H
  | 0 => by simpa using h
  | m + 1 => by
    have := (S3.addNos h m).addNo (v := none)
    refine this.perm ?_
    rw [List.replicate_succ, List.replicate_succ]
    exact List.perm_middle.symm
theorem St3.extend {K : PySem.W.Frag} {F : F3} {ρ : En} {vs : List V} {H : Hp} (h : St3 K F ρ (vs.map some) [] H) (m : Nat) : St3 K F (ρ ++ List.replicate m .no) (vs.map some ++ List.replicate m none) [] H := by
  refine ⟨by simpa using h.len, ?_, fun p hp => by cases hp⟩
  have e : List.zip (vs.map some ++ List.replicate m none) (ρ ++ List.replicate m Sl.no) = List.zip (vs.map some) ρ ++ List.zip (List.replicate m none) (List.replicate m .no) := List.zip_append h.len
  rw [e]
  exact h.s.addNos m
theorem ok3F {P : Program} {w : World} {K : PySem.W.Frag} {mg : Str → Option Value} {base : Heap} {x qual : Str} {st : Stmt} {f : Addr} {fd : FuncData} {N ps : List Str} {k n : Nat} {b : Option Nat} {sp : Sp3} (F : Fun K x qual st f fd) (S : FnScope N ps (defScope st)) (hn : ps.length = n) (hb : ∀ j, b = some j → j < n)
    (hm : mg x = some (.ref f)) (hbi : Binds K fd ps [])
    (hbody : ∀ (cdv : Value) (A : Around) (outer : List Env) (s : Shared) (H : Hp), Room k (A.deeper (envOfC qual (defScope st) s.heap.objs.size f cdv)) →
      ∃ t, PSs3 (cxOf CX0 P w K mg base N qual (defScope st) f cdv A outer s H E0).nox E0 (defBody st) t ∧
        ∀ (ars : List Ar) (Q3 : Rs → Ob → Prop) (E3 : Exc → Prop), ars.length = n → sp ars Q3 E3 → t noE (endsOf b Q3) (arSl 0 ars ++ List.replicate (N.length - n) .no)) : FnOk P w K mg base CX0 (k + 1) f fd ps (prom K n b sp) := by
  refine F.ok S (fun vs H Q E ⟨F3', ars, Q3, hl, _⟩ => by rw [hl, hn]) (fun cdv A outer s H vs Q E hr hsp => ?_)
  obtain ⟨F3', ars, Q3, hl, e0, h, ha, hbo, cv, q, fin⟩ := hsp
  obtain ⟨t, ht, hq⟩ := hbody cdv A outer s H hr
  have hst : St3 K F3' (arSl 0 ars ++ List.replicate (N.length - n) .no) (L2.start N vs) [] H := by
    show St3 K F3' _ (vs.map some ++ List.replicate (N.length - vs.length) none) [] H
    rw [hl]
    exact h.extend (N.length - n)
  refine ⟨upS K E0 t, ht, { F3' with E3 := noE }, _, [], endsOf b Q3, hst.noE, (fun p hp => by cases hp), cv0, ?_, ?_⟩
  · exact hq ars Q3 _ (by have := h.len; rw [List.length_map, arSl_len, hl] at this; exact this.symm) q
  · have fn : ∀ r ρ' σ' v H', (endsOf b Q3).rt r ρ' → St3 K { F3' with E3 := noE } ρ' σ' [(v, r)] H' → Q v H' := fun r ρ' σ' v H' ⟨r', ρ2, e1, out, e2, q3⟩ h' => by
      obtain ⟨h2, na⟩ := (St3.unE h').fin e1
      exact fin _ _ _ _ q3 (h2.fin3 na e2 fun k a e => (ha k a e).1)
    exact ⟨fun ρ' σ' H' ⟨out, e2, q3⟩ h' => fin _ _ _ _ q3 (((St3.unE h').push .non).fin3 rfl e2 fun k a e => (ha k a e).1), fn, fun _ _ _ z => z.elim, fun _ _ _ z => z.elim⟩
theorem ok3 {P : Program} {w : World} {K : PySem.W.Frag} {mg : Str → Option Value} {base : Heap} {x qual : Str} {st : Stmt} {f : Addr} {fd : FuncData} {N ps : List Str} {k n : Nat} {b : Option Nat} {sp : Sp3} (F : Fun K x qual st f fd) (S : FnScope N ps (defScope st)) (hn : ps.length = n) (hb : ∀ j, b = some j → j < n)
    (hm : mg x = some (.ref f)) (hbi : Binds K fd ps [])
    (hbody : ∀ (cdv : Value) (A : Around) (outer : List Env) (s : Shared) (H : Hp), Room k (A.deeper (envOfC qual (defScope st) s.heap.objs.size f cdv)) →
      ∃ t, PSs3 (cxOf CX0 P w K mg base N qual (defScope st) f cdv A outer s H E0).nox E0 (defBody st) t ∧
        ∀ (ars : List Ar) (Q3 : Rs → Ob → Prop) (E3 : Exc → Prop), ars.length = n → sp ars Q3 E3 → t noE (endsOf b Q3) (arSl 0 ars ++ List.replicate (N.length - n) .no)) : Fn3 P w K mg base (k + 1) x n b sp := ⟨hb, f, fd, ps, hn, ok3F F S hn hb hm hbi hbody, hm, F.kp, hbi⟩
end
end L3

namespace L3
open PySem PySem.Spec PyProof.Rows L2
section
variable {X : Cx} {E : XK} {pos : Pos}
/-! ### lists that change -/
abbrev FnM := List D → List D → Option (D × List D)
def m3 (K : PySem.W.Frag) (fn : FnM) (cd : List D → List D → Prop) : V → List V → Hp → VK → Prop := fun x vs H Q => ∃ ok a xs ds as res, x = .ref a ∧ H a = some (.lst xs) ∧ RpL K H ok xs ds ∧ RpL K H ok vs as ∧ fn ds as = some res ∧ cd ds as ∧
  ∀ v ys, Rp K H ok v res.1 → RpL K H ok ys res.2 → Q v (upd H a (.lst ys))
structure MPre where
  i : Nat
  s : Option Nat
  ds : List D
  as : List D
  en : En
def mPre (ρ : En) (r0 : Rs) (rs : List Rs) : Option MPre := match r0 with
  | .at i => (frzL ρ rs).bind fun p => match p.2[i]? with
    | some (.ow s (.lst ds)) => some ⟨i, s, ds, p.1, p.2⟩
    | _ => none
  | _ => none
def isOwL (ρ : En) (r0 : Rs) : Option Unit := match r0 with
  | .at i => match ρ[i]? with
    | some (.ow _ (.lst _)) => some ()
    | _ => none
  | _ => none
def t3meth (fn : FnM) (cd : List D → List D → Prop) (to : TE3) (ta : TA3) : TE3 := fun E ρ Q => to E ρ fun r0 ρ1 => (∃ u, isOwL ρ1 r0 = some u ∧ ta E ρ1 fun rs ρ2 => ∃ i s ds as en, mPre ρ2 r0 rs = some ⟨i, s, ds, as, en⟩ ∧ ∃ z es, fn ds as = some (z, es) ∧ cd ds as ∧ Q (.d z) (en.set i (.ow s (.lst es))))
theorem own_paired {K : PySem.W.Frag} {H : Hp} {ok : Addr → Prop} : ∀ {vs : List V} {ds : List D}, RpL K H ok vs ds → Paired (Rp K H ok) vs ds
  | _, _, .nil => .nil
  | _, _, .cons r t => .cons r (own_paired t)
/-- the changed list, and what comes of the method -/
theorem St3.meth {K : PySem.W.Frag} {F : F3} {ρ : En} {σ : L2.St} {T : Tm} {H : Hp} {i : Nat} {s : Option Nat} {ds es : List D} {a : Addr} {z : D} {v : V} {ys : List V} (h : St3 K F ρ σ T H) (hi : ρ[i]? = some (.ow s (.lst ds))) (hv : σ[i]? = some (some (.ref a)))
    (r1 : Rp K H (okO F (cellsOf ρ σ T)) v z) (r2 : RpL K H (okO F (cellsOf ρ σ T)) ys es) : St3 K F (ρ.set i (.ow s (.lst es))) σ ((v, .d z) :: T) (upd H a (.lst ys)) := by
  have h1 := h.push r1
  obtain ⟨w, R, hw, pm, sC, un⟩ := h1.slot hi
  rw [hv] at hw; cases hw
  have r2' : RpL K H (okO F ((some (V.ref a), Sl.ow s (.lst ds)) :: (tCs ((v, .d z) :: T) ++ R))) ys es := rpL_map (fun _ _ r => rp_keep (fun _ _ q _ => q) (fun b k => ⟨k.1, fun hb => k.2 (by
    have m := (List.Perm.flatMap_right ownC pm).mem_iff.mpr hb
    obtain ⟨c, hc, hm⟩ := List.mem_flatMap.mp m
    rcases List.mem_append.mp hc with y | y
    · rcases List.mem_append.mp (show c ∈ tC1 (v, .d z) ++ tCs T from y) with y | y
      · have : c = (some v, .d z) := by simpa [tC1] using y
        subst this
        simp [ownC] at hm
      · exact List.mem_flatMap.mpr ⟨c, List.mem_append_left _ y, hm⟩
    · exact List.mem_flatMap.mpr ⟨c, List.mem_append_right _ y, hm⟩)⟩) r) r2
  have s2 := sC.write (o' := .lst es) (u := .lst ys) trivial fun ok hok => (⟨ys, upd_same, rpL_map hok r2'⟩ : ∃ xs, upd H a (.lst ys) a = some (.lst xs) ∧ RpL K _ ok xs es)
  have es' : σ.set i (some (V.ref a)) = σ := set_same hv
  have u := un (some (V.ref a)) (.ow s (.lst es))
  rw [es'] at u
  exact ⟨by simpa using h1.len, s2.perm u.symm, h1.al⟩
theorem upM {K : PySem.W.Frag} {fn : FnM} {cd : List D → List D → Prop} {to : TE3} {ta : TA3} {σ : L2.St} {H : Hp} {Q : VK} (h : up K E (t3meth fn cd to ta) σ H Q) : tBM K "list" (m3 K fn cd) (up K E to) (upA K E ta) σ H Q := by
  obtain ⟨F, ρ, T, Q3, h, cv, q, k⟩ := h
  refine ⟨F, ρ, T, _, h, cv, q, fun r0 ρ1 v1 H1 ⟨u, eu, q1⟩ h1 => ⟨?_, F, ρ1, _, _, h1, cv, q1, fun rs ρ2 vs H2 ⟨mi, ms, mds, mas, men, e0, z, es, hr, e2, q2⟩ hl h2 => ?_⟩⟩
  · cases r0 with
    | «at» i =>
      have eu : (match ρ1[i]? with
        | some (.ow _ (.lst _)) => some ()
        | _ => none) = some u := eu
      split at eu
      · rename_i s ds hs
        obtain ⟨a, g1, ⟨xs, g2, _⟩, _⟩ := h1.owSlot hs
        have := h1.al _ List.mem_cons_self i rfl
        rw [g1] at this; cases this
        exact .inl ⟨rfl, xs, .inl (.inl g2)⟩
      · cases eu
    | _ => cases eu
  · cases r0 with
    | «at» i =>
      have e0 : ((frzL ρ2 rs).bind fun p => match p.2[i]? with
        | some (.ow s (.lst ds)) => some (MPre.mk i s ds p.1 p.2)
        | _ => none) = some ⟨mi, ms, mds, mas, men⟩ := e0
      cases hf : frzL ρ2 rs with
      | none => rw [hf] at e0; cases e0
      | some p =>
        rw [hf] at e0
        simp only [Option.bind_some] at e0
        cases hs : p.2[i]? with
        | none => simp only [hs] at e0; cases e0
        | some c =>
          cases c with
          | ow s o =>
            cases o with
            | lst ds =>
              simp only [hs, Option.some.injEq, MPre.mk.injEq] at e0
              obtain ⟨rfl, rfl, rfl, rfl, rfl⟩ := e0
              · obtain ⟨h3, l3⟩ := h2.frzL hl hf
                obtain ⟨a, g1, ⟨xs, g2, g3⟩, _⟩ := h3.owSlot hs
                have av : v1 = .ref a := by
                  have := h3.al (v1, .at i) (List.mem_append_right _ List.mem_cons_self) i rfl
                  rw [g1] at this; cases this; rfl
                subst av
                have rl := h3.rpL l3
                refine ⟨okO F (cellsOf p.2 σ (List.zip vs (p.1.map .d) ++ (V.ref a, .at i) :: T)), a, xs, ds, p.1, (z, es), rfl, g2, g3, rl, hr, e2, fun v ys w1 w2 => ?_⟩
                have h4 := h3.meth hs g1 w1 w2
                have h5 : St3 K F (p.2.set i (.ow s (.lst es))) σ ((v, .d z) :: ((V.ref a, .at i) :: T)) (upd H2 a (.lst ys)) := h4.drop2
                exact k _ _ _ _ q2 ((h5.perm (List.Perm.swap _ _ _)).pop)
            | _ => simp only [hs] at e0; cases e0
          | _ => simp only [hs] at e0; cases e0
    | _ => cases e0

theorem p3meth {o e : Expr} {es : List Expr} {to : TE3} {ta : TA3} {fn : FnM} {cd : List D → List D → Prop} {name : Str} {id : String} {apos cpos : Pos} (pa : PlainAttrs "list") (slot : Slot "list" name id) (hty : typeOf (.builtin id) = pure (.type "method_descriptor")) (hm : MtR X id (m3 X.K fn cd)) (ho : PE3 X E o to) (ha : PA3 X E (e :: es) ta)
    (hbase : attributeBase o name X.env (eval o X.env) = eval o X.env := by rfl)
    (hfew : ((backTo cpos (starEach (e :: es) X.env)).all (fun x => !x.1) && (backToKw cpos (keywordEach [] X.env)).all (fun x => x.1.isSome)
      && decide ((e :: es).length + ([] : List Keyword).length + (if ([] : List Keyword).isEmpty then 0 else 1) < 30)) = true := by rfl)
    (hline : (apos.endLine == cpos.line) = true := by rfl) (hs : starEach (e :: es) X.env = (false, eval e X.env) :: starEach es X.env := by rfl) (hplain : (backTo cpos (starEach es X.env)).any (·.1) = false := by rfl) :
    PE3 X E (.Call (.Attribute o name apos) (e :: es) [] cpos) (t3meth fn cd to ta) :=
  peImp (pe_bm pa slot hty hm ho ha hbase hfew hline hs hplain) fun _ _ _ h => upM h
theorem p3meth0 {o : Expr} {to : TE3} {fn : FnM} {cd : List D → List D → Prop} {name : Str} {id : String} {apos cpos : Pos} (pa : PlainAttrs "list") (slot : Slot "list" name id) (hty : typeOf (.builtin id) = pure (.type "method_descriptor")) (hm : MtR X id (m3 X.K fn cd)) (ho : PE3 X E o to)
    (hbase : attributeBase o name X.env (eval o X.env) = eval o X.env := by rfl) (hline : (apos.endLine == cpos.line) = true := by rfl) :
    PE3 X E (.Call (.Attribute o name apos) [] [] cpos) (t3meth fn cd to t3nil) :=
  peImp (pe_bm0 pa slot hty hm ho hbase hline) fun σ H Q h => by
    have := upM h
    obtain ⟨F, ρ, T, Q3, h1, h2, h3, h4⟩ := this
    refine ⟨F, ρ, T, Q3, h1, h2, h3, fun r ρ' v H' q s => ?_⟩
    obtain ⟨k1, F2, ρ2, T2, Q4, a1, a2, a3, a4⟩ := h4 r ρ' v H' q s
    exact ⟨k1, a4 [] ρ2 [] H' a3 rfl a1⟩
def fnAppend : FnM := fun ds as => match as with
  | [x] => some (.none, ds ++ [x])
  | _ => none
theorem m_append : MtR X "list.append" (m3 X.K fnAppend fun ds _ => ds.length < sizeLine) := by
  intro pins s σ H x vs v us Q I rx rv ⟨ok, a, xs, ds, as, res, e1, e2, r1, r2, e3, c, k⟩
  unfold fnAppend at e3
  split at e3
  · cases e3
    subst e1
    cases r2 with
    | cons q t =>
      cases t
      exact mt_append pins s σ H _ _ v us Q I rx rv ⟨a, xs, _, rfl, rfl, e2, by rw [r1.length]; exact c, k _ _ .non (r1.append (.cons q .nil))⟩
  · cases e3
def fnPop : FnM := fun ds as => match as with
  | [] => (ds[ds.length - 1]?).map fun x => (x, ds.dropLast)
  | _ => none
theorem RpL.dropLast {K : PySem.W.Frag} {H : Hp} {ok : Addr → Prop} {vs : List V} {ds : List D} (h : RpL K H ok vs ds) : RpL K H ok vs.dropLast ds.dropLast := by
  rw [List.dropLast_eq_take, List.dropLast_eq_take, h.length]
  exact h.take _
theorem m_pop : MtR X "list.pop" (m3 X.K fnPop fun _ _ => True) := by
  intro pins s σ H x vs v us Q I rx rv ⟨ok, a, xs, ds, as, res, e1, e2, r1, r2, e3, c, k⟩
  unfold fnPop at e3
  split at e3
  · cases hd : ds[ds.length - 1]? with
    | none => rw [hd] at e3; cases e3
    | some y =>
      rw [hd] at e3
      cases e3
      subst e1
      cases r2
      obtain ⟨w, g1, g2⟩ := r1.get hd
      exact mt_pop pins s σ H _ _ v us Q I rx rv ⟨a, xs, w, rfl, rfl, e2, by rw [r1.length]; exact g1, k _ _ g2 r1.dropLast⟩
  · cases e3
def fnReverse : FnM := fun ds as => match as with
  | [] => some (.none, ds.reverse)
  | _ => none
theorem m_reverse : MtR X "list.reverse" (m3 X.K fnReverse fun _ _ => True) := by
  intro pins s σ H x vs v us Q I rx rv ⟨ok, a, xs, ds, as, res, e1, e2, r1, r2, e3, c, k⟩
  unfold fnReverse at e3
  split at e3
  · cases e3
    subst e1
    cases r2
    exact mt_reverse pins s σ H _ _ v us Q I rx rv ⟨a, xs, rfl, rfl, e2, k _ _ .non r1.reverse⟩
  · cases e3
def fnInsert : FnM := fun ds as => match as with
  | [.int i, x] => some (.none, ds.take i.toNat ++ [x] ++ ds.drop i.toNat)
  | _ => none
def cdInsert : List D → List D → Prop := fun ds as => match as with
  | [.int i, _] => ds.length < sizeLine ∧ 0 ≤ i ∧ i < 2 ^ 63
  | _ => False
/-! o[i] = e -/
def fnSetI (ds : List D) (k : D) (x : D) : Option (List D) := match k with
  | .int i => (ixN ds.length i).map fun j => ds.set j x
  | _ => none
def t3setI (to ti te : TE3) : TS3 := fun E D ρ => te E ρ fun r ρ1 => to E ρ1 fun r0 ρ2 => ti E ρ2 fun rk ρ3 => ∃ (i : Nat) (s : Option Nat) (ds as : List PyData) (en : En), ((frzR ρ3 r).bind fun p => (viewR p.2 rk).bind fun k => match r0 with
  | .at i0 => match p.2[i0]? with
    | some (.ow s0 (.lst ds0)) => some (MPre.mk i0 s0 ds0 [k, p.1] p.2)
    | _ => none
  | _ => none) = some ⟨i, s, ds, as, en⟩ ∧ ∃ es, (match as with
    | [k, x] => fnSetI ds k x
    | _ => none) = some es ∧ D.nx (en.set i (.ow s (.lst es)))
theorem s3setI {o i e : Expr} {tpos : Pos} {to ti te : TE3} (ho : PE3 X E o to) (hi : PE3 X E i ti) (he : PE3 X E e te)
    (ha : ∀ v, assign (.Subscript o i tpos) X.env v = (do
      let ov ← holding [v] (eval o X.env)
      let iv ← holding [v, ov] (eval i X.env)
      standAt tpos
      holding [v, ov, iv] (setItem ov iv v)
      release [v, ov, iv] []) := by intro _; rfl)
    (hs : swapsWithSole [.Subscript o i tpos] e pos.line X.env = pure false := by rfl) (hw : swappedStores [.Subscript o i tpos] e X.env = pure none := by rfl)
    (h1 : (assignEach [.Subscript o i tpos] X.env).map (·.2) = [assign (.Subscript o i tpos) X.env] := by rfl) : PS3 X E (.Assign [.Subscript o i tpos] e pos) (t3setI to ti te) :=
  psImp (ps_asg he (pg_sub ho hi set_list ha) hs hw h1) fun D σ H ⟨F, ρ, T, D3, h, hn, cv, q, c⟩ => ⟨F, ρ, T, _, h, cv, q, fun r ρ1 v H1 q1 h1 => ⟨F, ρ1, _, _, h1, cv, q1, fun r0 ρ2 v0 H2 q2 h2 => ⟨F, ρ2, _, _, h2, cv, q2, fun rk ρ3 vk H3 ⟨mi, ms, mds, mas, men, ez, es, ez2, q3⟩ h3 => by
    cases hf : frzR ρ3 r with
    | none => rw [hf] at ez; cases ez
    | some p =>
      rw [hf] at ez
      have h4 : St3 X.K F p.2 σ ((v, .d p.1) :: (vk, rk) :: (v0, r0) :: T) H3 := (h3.perm (T' := (v, r) :: (vk, rk) :: (v0, r0) :: T) (by
        refine ((List.Perm.cons _ (List.Perm.swap _ _ _)).trans (List.Perm.swap _ _ _)).trans (List.Perm.refl _))).frz hf
      simp only [Option.bind_some] at ez
      cases hk : viewR p.2 rk with
      | none => rw [hk] at ez; cases ez
      | some k =>
        rw [hk] at ez
        simp only [Option.bind_some] at ez
        cases r0 with
        | «at» i =>
          simp only at ez
          cases hs : p.2[i]? with
          | none => simp only [hs] at ez; cases ez
          | some cc =>
            cases cc with
            | ow s oo =>
              cases oo with
              | lst ds =>
                simp only [hs, Option.some.injEq, MPre.mk.injEq] at ez
                obtain ⟨rfl, rfl, rfl, rfl, rfl⟩ := ez
                simp only at ez2
                cases k with
                | int kk =>
                  cases hj : ixN ds.length kk with
                  | none => simp [fnSetI, hj] at ez2
                  | some j =>
                    simp [fnSetI, hj] at ez2
                    subst ez2
                    obtain ⟨a, g1, ⟨xs, g2, g3⟩, _⟩ := h4.owSlot hs
                    have av : v0 = .ref a := by
                      have := h4.al (v0, .at i) (List.mem_cons_of_mem _ (List.mem_cons_of_mem _ List.mem_cons_self)) i rfl
                      rw [g1] at this; cases this; rfl
                    subst av
                    cases Rp.int_inv (h4.view (v := vk) (r := rk) (List.mem_cons_of_mem _ List.mem_cons_self) hk)
                    have rv := h4.s.rp (v := v) (x := p.1) (List.mem_append_left _ (List.mem_flatMap.mpr ⟨_, List.mem_cons_self, by simp [tC1]⟩))
                    have h5 := h4.meth (z := .none) (v := .non) hs g1 .non (g3.set rv j)
                    refine ⟨a, xs, kk, j, rfl, rfl, g2, by rw [g3.length]; exact hj, ?_⟩
                    exact c.nx _ _ _ q3 h5.pop.pop.pop.pop
                | _ => simp [fnSetI] at ez2
              | _ => simp only [hs] at ez; cases ez
            | _ => simp only [hs] at ez; cases ez
        | _ => cases ez⟩⟩⟩
end
end L3

namespace L3
open PySem PySem.Spec PyProof.Rows L2
section
variable {X : Cx} {E : XK} {pos : Pos}
theorem pair1 {α β : Type} {F : α → β → Prop} {xs : List α} {b : β} (h : Paired F xs [b]) : ∃ a, xs = [a] ∧ F a b := by
  cases h with
  | cons r t => cases t; exact ⟨_, rfl, r⟩
theorem pair2 {α β : Type} {F : α → β → Prop} {xs : List α} {b c : β} (h : Paired F xs [b, c]) : ∃ a a', xs = [a, a'] ∧ F a b ∧ F a' c := by
  cases h with
  | cons r t => cases t with
    | cons r' t => cases t; exact ⟨_, _, rfl, r, r'⟩
def fnInt : FnL
  | [.int i] => some (.int i)
  | [.bool b] => some (.int (if b then 1 else 0))
  | [.str a] => (PySem.intText? a).map .int
  | _ => none
def cdInt : CdL
  | [.str a] => a.length ≤ 640
  | _ => True
theorem c_int : CallR X (.type "int") (c3 X.K fnInt cdInt) := by
  intro pins s σ H xs us Q I r ⟨ok, ds, z, hp, e, c, k⟩
  unfold fnInt at e
  split at e
  · cases e
    obtain ⟨a, rfl, q⟩ := pair1 hp
    cases Rp.int_inv q
    exact call_int1 pins s σ H _ us Q I r (.inl ⟨_, rfl, k _ _ (.same (.int _) nofun)⟩)
  · cases e
    obtain ⟨a, rfl, q⟩ := pair1 hp
    cases Rp.bl_inv q
    exact call_int1 pins s σ H _ us Q I r (.inr ⟨_, rfl, k _ _ (.same (.int _) nofun)⟩)
  · obtain ⟨a, rfl, q⟩ := pair1 hp
    rename_i t
    cases hi : PySem.intText? t with
    | none => rw [hi] at e; cases e
    | some n =>
      rw [hi] at e
      cases e
      cases Rp.str_inv q
      exact call_int_str pins s σ H _ us Q I r ⟨_, n, rfl, hi, c, k _ _ (.same (.int _) nofun)⟩
  · cases e
def fnAbs : FnL
  | [.int i] => some (.int (if i < 0 then -i else i))
  | _ => none
abbrev cdLT : CdL := fun _ => True
theorem c_abs : CallR X (.builtin "abs") (c3 X.K fnAbs cdLT) := by
  intro pins s σ H xs us Q I r ⟨ok, ds, z, hp, e, c, k⟩
  unfold fnAbs at e
  split at e
  · cases e
    obtain ⟨a, rfl, q⟩ := pair1 hp
    cases Rp.int_inv q
    exact call_abs pins s σ H _ us Q I r ⟨_, rfl, k _ _ (.same (.int _) nofun)⟩
  · cases e
def fnMax : FnL
  | [.int i, .int j] => some (.int (if j > i then j else i))
  | _ => none
def fnMin : FnL
  | [.int i, .int j] => some (.int (if j < i then j else i))
  | _ => none
theorem c_max (hc : X.calm = true) : CallR X (.builtin "max") (c3 X.K fnMax cdLT) := by
  intro pins s σ H xs us Q I r ⟨ok, ds, z, hp, e, c, k⟩
  unfold fnMax at e
  split at e
  · cases e
    obtain ⟨a, b, rfl, q, q'⟩ := pair2 hp
    cases Rp.int_inv q
    cases Rp.int_inv q'
    exact call_max2 hc pins s σ H _ us Q I r ⟨_, _, rfl, k _ _ (.same (.int _) nofun)⟩
  · cases e
theorem c_min (hc : X.calm = true) : CallR X (.builtin "min") (c3 X.K fnMin cdLT) := by
  intro pins s σ H xs us Q I r ⟨ok, ds, z, hp, e, c, k⟩
  unfold fnMin at e
  split at e
  · cases e
    obtain ⟨a, b, rfl, q, q'⟩ := pair2 hp
    cases Rp.int_inv q
    cases Rp.int_inv q'
    exact call_min2 hc pins s σ H _ us Q I r ⟨_, _, rfl, k _ _ (.same (.int _) nofun)⟩
  · cases e
def fnStr : FnL
  | [.int i] => some (.str (toString i))
  | _ => none
def cdStr : CdL
  | [.int i] => i.natAbs.log2 < 1920
  | _ => False
theorem c_str : CallR X (.type "str") (c3 X.K fnStr cdStr) := by
  intro pins s σ H xs us Q I r ⟨ok, ds, z, hp, e, c, k⟩
  unfold fnStr at e
  split at e
  · cases e
    obtain ⟨a, rfl, q⟩ := pair1 hp
    cases Rp.int_inv q
    exact call_str_int pins s σ H _ us Q I r ⟨_, rfl, c, k _ _ (.same (.str _) nofun)⟩
  · cases e
def lenD : D → Option Nat
  | .list xs => some xs.length
  | .tuple xs => some xs.length
  | .str z => some z.length
  | .dict kvs => some kvs.length
  | _ => none
def fnLen : FnL
  | [.list xs] => some (.int xs.length)
  | [.tuple xs] => some (.int xs.length)
  | [.str z] => some (.int z.length)
  | [.dict kvs] => some (.int kvs.length)
  | _ => none
def cdLen : CdL
  | [.str z] => z.length ≤ sizeLine
  | _ => True
theorem fnLen_eq (ds : List D) : fnLen ds = (match ds with
    | [x] => (lenD x).map fun n => PyData.int n
    | _ => none) := by
  rcases ds with _ | ⟨x, _ | ⟨_, _⟩⟩
  · rfl
  · cases x <;> rfl
  · cases x <;> rfl
theorem c_len : CallR X (.builtin "len") (c3 X.K fnLen cdLen) := by
  intro pins s σ H xs us Q I r ⟨ok, ds, z, hp, e, c, k⟩
  rw [fnLen_eq] at e
  split at e
  · obtain ⟨a, rfl, q⟩ := pair1 hp
    rename_i x
    have fin : ∀ (n : Nat), lenD x = some n → Q (.int n) H := fun n hn => by
      rw [hn] at e
      cases e
      exact k _ _ (.same (.int _) nofun)
    cases x with
    | list l =>
      obtain ⟨b, vs, rfl, h1, h2⟩ := q
      have : LenV X.K (.ref b) H l.length := .inl ⟨vs, .inl (.inl h1), h2.length.symm⟩
      exact call_len pins s σ H _ us Q I r ⟨_, _, rfl, this, fin _ rfl⟩
    | tuple l =>
      obtain ⟨b, vs, rfl, h1, h2⟩ := Rp.tup_inv q
      have : LenV X.K (.ref b) H l.length := .inr ⟨vs, h1, h2.length.symm⟩
      exact call_len pins s σ H _ us Q I r ⟨_, _, rfl, this, fin _ rfl⟩
    | str l =>
      cases Rp.str_inv q
      have : LenV X.K (.str l) H l.length := ⟨c, rfl⟩
      exact call_len pins s σ H _ us Q I r ⟨_, _, rfl, this, fin _ rfl⟩
    | dict kvs =>
      have q : Rp X.K H ok a (.dict kvs) := q
      generalize ed : PyData.dict kvs = dd at q
      cases q with
      | scr q0 =>
        rename_i b ns
        have ek : kvs = ns.map fun n => (.int n, .none) := PyData.dict.inj ed
        subst ek
        have : LenV X.K (.ref b) H (ns.map fun n => ((.int n, .none) : D × D)).length := .inl ⟨_, q0.sq, by simp⟩
        exact call_len pins s σ H _ us Q I r ⟨_, _, rfl, this, fin _ rfl⟩
      | _ => cases ed
    | _ => cases e
  · cases e
def fnList : FnL
  | [.list xs] => some (.list xs)
  | [.tuple xs] => some (.list xs)
  | _ => none
theorem c_list : CallR X (.type "list") (c3 X.K fnList cdLT) := by
  intro pins s σ H xs us Q I r ⟨ok, ds, z, hp, e, c, k⟩
  unfold fnList at e
  split at e
  · cases e
    obtain ⟨a, rfl, b, vs, rfl, h1, h2⟩ := pair1 hp
    exact call_list_of pins s σ H _ us Q I r ⟨b, vs, rfl, .inl (.inl (.inl h1)), fun l hl => k _ _ (.lst hl h2)⟩
  · cases e
    obtain ⟨a, rfl, q⟩ := pair1 hp
    obtain ⟨b, vs, rfl, h1, h2⟩ := Rp.tup_inv q
    exact call_list_of pins s σ H _ us Q I r ⟨b, vs, rfl, .inr h1, fun l hl => k _ _ (.lst hl h2)⟩
  · cases e
def fnTuple : FnL
  | [.list xs] => some (.tuple xs)
  | [.tuple xs] => some (.tuple xs)
  | _ => none
theorem c_tuple : CallR X (.type "tuple") (c3 X.K fnTuple cdLT) := by
  intro pins s σ H xs us Q I r ⟨ok, ds, z, hp, e, c, k⟩
  unfold fnTuple at e
  split at e
  · cases e
    obtain ⟨a, rfl, b, vs, rfl, h1, h2⟩ := pair1 hp
    exact call_tuple_of pins s σ H _ us Q I r ⟨b, vs, rfl, .inl ⟨.inl (.inl h1), fun l hl => k _ _ (.tup hl h2)⟩⟩
  · cases e
    obtain ⟨a, rfl, q⟩ := pair1 hp
    obtain ⟨b, vs, rfl, h1, h2⟩ := Rp.tup_inv q
    exact call_tuple_of pins s σ H _ us Q I r ⟨b, vs, rfl, .inr ⟨h1, k _ _ (.same (.tup h1 h2) nofun)⟩⟩
  · cases e
/-! isinstance of a built-in type -/
inductive TyK where
  | bool | int | str | tuple | list
def TyK.nm : TyK → String
  | .bool => "bool"
  | .int => "int"
  | .str => "str"
  | .tuple => "tuple"
  | .list => "list"
def isTy : TyK → D → Option Bool
  | _, .none => some false
  | .bool, .bool _ => some true
  | .int, .bool _ => some true
  | _, .bool _ => some false
  | .int, .int _ => some true
  | _, .int _ => some false
  | .str, .str _ => some true
  | _, .str _ => some false
  | .list, .list _ => some true
  | _, .list _ => some false
  | .tuple, .tuple _ => some true
  | _, .tuple _ => some false
  | _, .dict _ => none
def t3isi (T : TyK) (te : TE3) : TE3 := fun E ρ Q => te E ρ fun r ρ1 => Op1 (viewR ρ1 r) (isTy T) (fun _ => True) fun b => Q (.d (.bool b)) ρ1
theorem isTy_ok {K : PySem.W.Frag} {H : Hp} {ok : Addr → Prop} {v : V} {x : D} {T : TyK} {b : Bool} (h : Vw K H ok v x) (e : isTy T x = some b) : ∃ t, TyX K H v t ∧ PySem.W.kitOne K t (.type T.nm) = some b := by
  cases x with
  | none => cases Rp.non_inv h; refine ⟨_, .base .non, kit_ty ?_⟩; cases T <;> cases e <;> decide +kernel
  | bool y => cases Rp.bl_inv h; refine ⟨_, .base (.bl y), kit_ty ?_⟩; cases T <;> cases e <;> decide +kernel
  | int y => cases Rp.int_inv h; refine ⟨_, .base (.int y), kit_ty ?_⟩; cases T <;> cases e <;> decide +kernel
  | str y => cases Rp.str_inv h; refine ⟨_, .base (.str y), kit_ty ?_⟩; cases T <;> cases e <;> decide +kernel
  | list y =>
    obtain ⟨a, vs, rfl, h1, h2⟩ := h
    refine ⟨_, .base (.lst h1), kit_ty ?_⟩; cases T <;> cases e <;> decide +kernel
  | tuple y =>
    obtain ⟨a, vs, rfl, h1, h2⟩ := Rp.tup_inv h
    have k : kitB "tuple" T.nm = some b := by cases T <;> cases e <;> decide +kernel
    rcases h1 with (h1 | ⟨o, h1⟩) | ⟨o, its, n, h1, h3, _⟩
    · exact ⟨_, .base (.tup h1), kit_ty k⟩
    · exact ⟨_, .fTuple h1, kit_ty k⟩
    · exact ⟨_, .kTuple h1 h3, kit_ty k⟩
  | dict kvs => cases T <;> cases e
theorem p3isi {e : Expr} {te : TE3} (T : TyK) {TN : Str} {p p2 : Pos} (he : PE3 X E e te) (hg : Gl X "isinstance") (hm : X.mg "isinstance" = none) (hgT : Gl X TN) (hmT : X.mg TN = none) (hvT : bootBuiltins TN = some (.type T.nm)) (hnT : TN ≠ "__name__" := by decide) (hdT : (TN == ("__debug__" : Str)) = false := by decide)
    (hs : starEach [e, .Name TN p2] X.env = (false, eval e X.env) :: starEach [.Name TN p2] X.env := by rfl) (hs2 : starEach [.Name TN p2] X.env = (false, eval (.Name TN p2) X.env) :: starEach [] X.env := by rfl)
    (hpl : (backTo pos (starEach [.Name TN p2] X.env)).any (·.1) = false := by rfl) (hvi : bootBuiltins "isinstance" = some (.builtin "isinstance") := by decide +kernel) :
    PE3 X E (.Call (.Name "isinstance" p) [e, .Name TN p2] [] pos) (t3isi T te) := by
  have hT : PE X (.Name TN p2) (tC (.ty T.nm)) := pe_bltn hgT hmT hvT rfl hnT hdT
  refine peImp (pe_callB call_isi hg hm hvi (pa_cons he (pa_cons hT pa_nil hs2) hs) (by decide) (by decide) hs hpl) fun σ H Q ⟨F, ρ, T0, Q3, h, cv, q, k⟩ => ⟨F, ρ, T0, _, h, cv, q, fun r ρ1 v H1 ⟨x, hx, b, hb, _, q1⟩ h1 => ?_⟩
  obtain ⟨t, ty, kt⟩ := isTy_ok (h1.view List.mem_cons_self hx) hb
  exact ⟨v, .ty T.nm, t, .type T.nm, b, rfl, .ty T.nm, ty, kt, k _ _ _ _ q1 (h1.pop.push (.bl b))⟩
/-! constants of the module -/
theorem p3glob {x : Str} {v : V} {u : Value} {d : D} (hg : Gl X x) (hm : X.mg x = some u) (r : RelV v u) (hd : ∀ H ok, Rp X.K H ok v d) (hdb : (x == ("__debug__" : Str)) = false := by decide) : PE3 X E (.Name x pos) (t3d d) := p3const (pe_glob hg hm r hdb) hd
/-! sep.join(texts) -/
def strsD : List D → Option (List Str)
  | [] => some []
  | .str x :: r => (strsD r).map fun q => x :: q
  | _ => none
theorem strsD_eq : ∀ {ds : List D} {ys : List Str}, strsD ds = some ys → ds = ys.map .str
  | [], ys, h => by cases h; rfl
  | d :: ds, ys, h => by
    cases d with
    | str x =>
      cases hs : strsD ds with
      | none => simp [strsD, hs] at h
      | some q => simp [strsD, hs] at h; subst h; rw [strsD_eq hs]; rfl
    | _ => cases h
theorem strsD_map (ys : List Str) : strsD (ys.map .str) = some ys := by
  induction ys with
  | nil => rfl
  | cons y ys ih => simp [strsD, ih]
def itemsLT : D → Option (List D)
  | .list xs => some xs
  | .tuple xs => some xs
  | _ => none
def fnJoin : D → List D → Option D := fun s as => match s, as with
  | .str a, [x] => (itemsLT x).bind fun ds => (strsD ds).map fun ys => .str (Txt.join a ys)
  | _, _ => none
def cdJoin : D → List D → Prop := fun s as => match s, as with
  | .str a, [x] => match (itemsLT x).bind strsD with
    | some ys => (ys.map (·.length)).sum + ys.length * a.length ≤ 16777216
    | none => False
  | _, _ => False
/-- methods of texts, by data -/
def mt3 (K : PySem.W.Frag) (fn : D → List D → Option D) (cd : D → List D → Prop) : V → List V → Hp → VK → Prop := fun x vs H Q => ∃ ok dx as z, Vw K H ok x dx ∧ Paired (Vw K H ok) vs as ∧ fn dx as = some z ∧ cd dx as ∧ ∀ v H', Ret K H ok v z H' → Q v H'
theorem m_join : MtR X "str.join" (mt3 X.K fnJoin cdJoin) := by
  intro pins s σ H x vs v us Q I rx rv ⟨ok, dx, as, z, hx, hp, e, c, k⟩
  unfold fnJoin at e
  split at e
  · rename_i a y
    cases Rp.str_inv hx
    obtain ⟨w, rfl, q⟩ := pair1 hp
    cases hi : itemsLT y with
    | none => rw [hi] at e; cases e
    | some ds =>
      cases hs : strsD ds with
      | none => simp [hi, hs] at e
      | some ys =>
        simp [hi, hs] at e
        subst e
        have c' : (ys.map (·.length)).sum + ys.length * a.length ≤ 16777216 := by
          have : (match (itemsLT y).bind strsD with
            | some ys => (ys.map (·.length)).sum + ys.length * a.length ≤ 16777216
            | none => False) := c
          rw [hi] at this
          simp only [Option.bind_some, hs] at this
          exact this
        have e2 := strsD_eq hs
        subst e2
        cases y with
        | list l =>
          cases hi
          obtain ⟨b, ws, rfl, h1, h2⟩ := q
          have := RpL.strs ys h2
          subst this
          exact mt_join pins s σ H _ _ v us Q I rx rv ⟨a, b, ys, rfl, rfl, .inl (.inl (.inl h1)), c', k _ _ (.same (.str _) nofun)⟩
        | tuple l =>
          cases hi
          obtain ⟨b, ws, rfl, h1, h2⟩ := Rp.tup_inv q
          have := RpL.strs ys h2
          subst this
          exact mt_join pins s σ H _ _ v us Q I rx rv ⟨a, b, ys, rfl, rfl, .inr h1, c', k _ _ (.same (.str _) nofun)⟩
        | _ => cases hi
  · cases e
def t3mt (fn : D → List D → Option D) (cd : D → List D → Prop) (to : TE3) (ta : TA3) : TE3 := fun E ρ Q => to E ρ fun r0 ρ1 => ta E ρ1 fun rs ρ2 => ∃ z, ((viewR ρ2 r0).bind fun x => (viewL ρ2 rs).bind fun ds => (fn x ds).map mkR) = some z ∧
  (match viewR ρ2 r0, viewL ρ2 rs with | some x, some ds => cd x ds | _, _ => False) ∧ Q z ρ2
end
end L3

namespace L3
open PySem PySem.Spec PyProof.Rows L2
section
variable {X : Cx} {E : XK} {pos : Pos}
def t3m1 (fn : D → List D → Option D) (cd : D → List D → Prop) (to te : TE3) : TE3 := fun E ρ Q => to E ρ fun r0 ρ1 => ∃ a, viewR ρ1 r0 = some (.str a) ∧ te E ρ1 fun r1 ρ2 => Op2 (view2 ρ2 r0 r1) (fun x y => fn x [y]) (fun x y => cd x [y]) fun z => Q (mkR z) ρ2
theorem p3m1 {o e : Expr} {to te : TE3} {fn : D → List D → Option D} {cd : D → List D → Prop} {id : String} {name : Str} {apos : Pos} (slot : Slot "str" name id) (ty : typeOf (.builtin id) = pure (.type "method_descriptor")) (rule : MtR X id (mt3 X.K fn cd)) (ho : PE3 X E o to) (he : PE3 X E e te)
    (hs : starEach [e] X.env = [(false, eval e X.env)] := by rfl) (hbase : attributeBase o name X.env (eval o X.env) = eval o X.env := by rfl) (hline : (apos.endLine == pos.line) = true := by rfl) : PE3 X E (.Call (.Attribute o name apos) [e] [] pos) (t3m1 fn cd to te) :=
  peImp (pe_m1 slot ty rule ho he hs hbase hline) fun σ H Q ⟨F, ρ, T, Q3, h, cv, q, k⟩ => ⟨F, ρ, T, _, h, cv, q, fun r0 ρ1 v0 H1 ⟨a, ea, q1⟩ h1 => ⟨⟨a, Rp.str_inv (h1.view List.mem_cons_self ea)⟩, F, ρ1, _, _, h1, cv, q1, fun r1 ρ2 v1 H2 ⟨x, d, ev, w, hf, e2, q2⟩ h2 => by
    obtain ⟨hx, hd⟩ := view2_eq ev
    refine ⟨_, x, [d], w, h2.view (List.mem_cons_of_mem _ List.mem_cons_self) hx, .cons (h2.view List.mem_cons_self hd) .nil, hf, e2, fun v H' rt => ?_⟩
    exact k _ _ _ _ q2 (((h2.ret rt).perm ((List.Perm.swap _ _ _).trans (List.Perm.cons _ (List.Perm.swap _ _ _)))).pop.pop)⟩⟩
/-! in place -/
def fnIAdd : Fn2
  | .int a, .int b => some (.int (a + b))
  | .str a, .str b => some (.str (a ++ b))
  | _, _ => none
def cdIAdd : Cd2
  | .str a, .str b => a.length + b.length ≤ sizeLine
  | _, _ => True
theorem io_add : OpR X (inplaceOp .Add) (r3 X.K fnIAdd cdIAdd) := by
  intro pins s σ H x y v u Q I rx ry ⟨ok, dx, dy, z, hx, hy, e, c, k⟩
  unfold fnIAdd at e
  split at e
  · cases e
    cases Rp.int_inv hx
    cases Rp.int_inv hy
    exact iop_add pins s σ H _ _ v u Q I rx ry ⟨_, _, rfl, rfl, k _ _ (.same (.int _) nofun)⟩
  · cases e
    cases Rp.str_inv hx
    cases Rp.str_inv hy
    exact iop_add_str pins s σ H _ _ v u Q I rx ry ⟨_, _, rfl, rfl, c, k _ _ (.same (.str _) nofun)⟩
  · cases e
theorem io_sub : OpR X (inplaceOp .Sub) (r3 X.K fnSub cdT) := oI (rI0_rI iop_sub)
def cdDiv1 : Cd2
  | .int a, .int b => CDiv a b
  | _, _ => False
def cdMul1 : Cd2
  | .int a, .int b => CMul a b
  | _, _ => False
theorem io_div : OpR X (inplaceOp .FloorDiv) (r3 X.K fnDiv cdDiv1) := oI iop_fdiv
theorem io_mod : OpR X (inplaceOp .Mod) (r3 X.K fnMod cdMod) := oI (show OpR X (inplaceOp .Mod) (rI (fun _ j => 0 < j) fun i j => .int (i % j)) from iop_mod)
theorem io_mul : OpR X (inplaceOp .Mult) (r3 X.K fnMul cdMul1) := oI iop_mul
end
end L3

namespace L3
open PySem PySem.Spec PyProof.Rows L2 SX
/-! ### loops by their items -/
theorem take_succ_of {α : Type} {ns : List α} {k : Nat} {a : α} (h : ns[k]? = some a) : ns.take (k + 1) = ns.take k ++ [a] := by
  rw [List.take_add_one, h]; rfl
theorem split_of {α : Type} {ns : List α} {k : Nat} {a : α} (h : ns[k]? = some a) : ns = ns.take k ++ a :: ns.drop (k + 1) ∧ (ns.take k).length = k := by
  obtain ⟨hl, e⟩ := List.getElem?_eq_some_iff.mp h
  refine ⟨?_, by rw [List.length_take]; omega⟩
  have e1 : ns.drop k = ns[k] :: ns.drop (k + 1) := List.drop_eq_getElem_cons hl
  rw [← e, ← e1, List.take_append_drop]
theorem getMap {α β : Type} {ns : List α} {g : α → β} {k : Nat} {y : β} (h : (ns.map g)[k]? = some y) : ∃ a, ns[k]? = some a ∧ g a = y := by
  rw [List.getElem?_map] at h
  cases hk : ns[k]? with
  | none => rw [hk] at h; cases h
  | some a => rw [hk] at h; exact ⟨a, rfl, by simpa using h⟩
theorem for_pre {α : Type} {ns : List α} {g : α → D} {st : En} {step : Nat → D → En → (Nat → En → Prop) → Prop} {done : En → Prop} (Inv : List α → En → Prop) (h0 : Inv [] st)
    (hs : ∀ pre a post ρ P, ns = pre ++ a :: post → Inv pre ρ → (∀ ρ', Inv (pre ++ [a]) ρ' → P (pre.length + 1) ρ') → step pre.length (g a) ρ P) (hd : ∀ ρ, Inv ns ρ → done ρ) : ForOb (ns.map g) st step done := by
  refine .mk (fun k ρ => Inv (ns.take k) ρ) h0 (fun k y ρ hy i => ?_) fun ρ i => hd ρ (by rw [List.length_map, List.take_length] at i; exact i)
  obtain ⟨a, ha, rfl⟩ := getMap hy
  obtain ⟨e, hl⟩ := split_of ha
  have := hs (ns.take k) a (ns.drop (k + 1)) ρ (fun k ρ => Inv (ns.take k) ρ) e i fun ρ' i' => by
    show Inv (ns.take ((ns.take k).length + 1)) ρ'
    rw [hl, take_succ_of ha]; exact i'
  rw [hl] at this
  exact this
theorem for_rng {lo c : Int} {n : Nat} {st : En} {step : Nat → D → En → (Nat → En → Prop) → Prop} {done : En → Prop} (Inv : Nat → En → Prop) (h0 : Inv 0 st)
    (hs : ∀ i ρ P, i < n → Inv i ρ → (∀ ρ', Inv (i + 1) ρ' → P (i + 1) ρ') → step i (.int (lo + (i : Nat) * c)) ρ P) (hd : ∀ ρ, Inv n ρ → done ρ) : ForOb (rngD lo c n) st step done := by
  refine .mk Inv h0 (fun k y ρ hy i => ?_) fun ρ i => hd ρ (by simpa [rngD] using i)
  obtain ⟨h1, rfl⟩ := rngD_get hy
  exact hs k ρ Inv h1 i fun _ z => z
theorem for_rng0 {n : Nat} {st : En} {step : Nat → D → En → (Nat → En → Prop) → Prop} {done : En → Prop} (Inv : Nat → En → Prop) (h0 : Inv 0 st)
    (hs : ∀ (i : Nat) ρ P, i < n → Inv i ρ → (∀ ρ', Inv (i + 1) ρ' → P (i + 1) ρ') → step i (.int i) ρ P) (hd : ∀ ρ, Inv n ρ → done ρ) : ForOb (rngD 0 1 n) st step done :=
  for_rng Inv h0 (fun i ρ P hi z k => by
    have e : (0 : Int) + (i : Nat) * 1 = (i : Int) := by omega
    rw [e]; exact hs i ρ P hi z k) hd
theorem for_rng1 {lo : Int} {n : Nat} {st : En} {step : Nat → D → En → (Nat → En → Prop) → Prop} {done : En → Prop} (Inv : Nat → En → Prop) (h0 : Inv 0 st)
    (hs : ∀ (i : Nat) ρ P, i < n → Inv i ρ → (∀ ρ', Inv (i + 1) ρ' → P (i + 1) ρ') → step i (.int (lo + i)) ρ P) (hd : ∀ ρ, Inv n ρ → done ρ) : ForOb (rngD lo 1 n) st step done :=
  for_rng Inv h0 (fun i ρ P hi z k => by
    have e : lo + (i : Nat) * 1 = lo + (i : Int) := by omega
    rw [e]; exact hs i ρ P hi z k) hd
/-- a comprehension whose elements change nothing -/
theorem lc_map {α : Type} {ns : List α} {g f : α → D} {st : En} {step : Nat → D → List D → En → (Nat → List D → En → Prop) → Prop} {done : List D → En → Prop} (hl : ns.length ≤ sizeLine)
    (hs : ∀ k a acc P, ns[k]? = some a → acc.length < sizeLine → P (k + 1) (acc ++ [f a]) st → step k (g a) acc st P) (hd : done (ns.map f) st) : LcOb (ns.map g) st step done := by
  refine .mk (fun k acc ρ => acc = (ns.take k).map f ∧ ρ = st) ⟨rfl, rfl⟩ ?_ ?_
  · rintro k y acc ρ hy ⟨rfl, rfl⟩
    obtain ⟨a, ha, rfl⟩ := getMap hy
    refine hs k a _ _ ha ?_ ⟨by rw [take_succ_of ha, List.map_append]; rfl, rfl⟩
    have := (List.getElem?_eq_some_iff.mp ha).1
    rw [List.length_map, List.length_take]; omega
  · rintro acc ρ ⟨rfl, rfl⟩
    rw [List.length_map, List.take_length]; exact hd
theorem lc_filter {α : Type} {ns : List α} {g f : α → D} {p : α → Bool} {st : En} {step : Nat → D → List D → En → (Nat → List D → En → Prop) → Prop} {done : List D → En → Prop} (hl : ns.length ≤ sizeLine)
    (hs : ∀ k a acc P, ns[k]? = some a → acc.length < sizeLine → P (k + 1) (acc ++ (if p a = true then [f a] else [])) st → step k (g a) acc st P) (hd : done ((ns.filter p).map f) st) : LcOb (ns.map g) st step done := by
  refine .mk (fun k acc ρ => acc = ((ns.take k).filter p).map f ∧ ρ = st) ⟨rfl, rfl⟩ ?_ ?_
  · rintro k y acc ρ hy ⟨rfl, rfl⟩
    obtain ⟨a, ha, rfl⟩ := getMap hy
    refine hs k a _ _ ha ?_ ⟨?_, rfl⟩
    · have := (List.getElem?_eq_some_iff.mp ha).1
      have h2 : ((ns.take k).filter p).length ≤ (ns.take k).length := List.length_filter_le _ _
      rw [List.length_map]
      rw [List.length_take] at h2
      omega
    · rw [take_succ_of ha, List.filter_append, List.map_append]
      by_cases hp : p a = true
      · rw [if_pos hp]; simp [hp]
      · rw [if_neg hp]; simp [hp]
  · rintro acc ρ ⟨rfl, rfl⟩
    rw [List.length_map, List.take_length]; exact hd
/-- a comprehension, by what stands before each item; the state may change -/
theorem lc_pre {α : Type} {ns : List α} {g : α → D} {st : En} {step : Nat → D → List D → En → (Nat → List D → En → Prop) → Prop} {done : List D → En → Prop} (Inv : List α → List D → En → Prop) (h0 : Inv [] [] st)
    (hs : ∀ pre a post acc ρ P, ns = pre ++ a :: post → Inv pre acc ρ → (∀ acc' ρ', Inv (pre ++ [a]) acc' ρ' → P (pre.length + 1) acc' ρ') → step pre.length (g a) acc ρ P) (hd : ∀ acc ρ, Inv ns acc ρ → done acc ρ) : LcOb (ns.map g) st step done := by
  refine .mk (fun k acc ρ => Inv (ns.take k) acc ρ) h0 (fun k y acc ρ hy i => ?_) fun acc ρ i => hd acc ρ (by rw [List.length_map, List.take_length] at i; exact i)
  obtain ⟨a, ha, rfl⟩ := getMap hy
  obtain ⟨e, hl⟩ := split_of ha
  have := hs (ns.take k) a (ns.drop (k + 1)) acc ρ (fun k acc ρ => Inv (ns.take k) acc ρ) e i fun acc' ρ' i' => by
    show Inv (ns.take ((ns.take k).length + 1)) acc' ρ'
    rw [hl, take_succ_of ha]; exact i'
  rw [hl] at this
  exact this
theorem rngD0 (n : Nat) : rngD 0 1 n = (List.range n).map fun i => PyData.int (i : Nat) := by
  unfold rngD
  apply List.map_congr_left
  intro i _
  congr 1
  omega
theorem rngD1 (lo : Int) (n : Nat) : rngD lo 1 n = (List.range n).map fun i => PyData.int (lo + (i : Nat)) := by
  unfold rngD
  apply List.map_congr_left
  intro i _
  congr 1
  omega
/-! ### steps of data -/
theorem popInts {es : List Int} {y : Int} : fnPop ((es ++ [y]).map .int) [] = some (.int y, es.map .int) := by
  unfold fnPop
  simp
theorem popL {es : List D} {y : D} : fnPop (es ++ [y]) [] = some (y, es) := by
  unfold fnPop
  simp
theorem lenInts {ds : List Int} (h : ¬ eqD (.int ((ds.map PyData.int).length : Int)) (.int 0) = true) : ∃ es y, ds = es ++ [y] := by
  rcases List.eq_nil_or_concat ds with e | ⟨es, y, e⟩
  · subst e; exact absurd rfl h
  · exact ⟨es, y, by rw [e, List.concat_eq_append]⟩
theorem ixN_nat {n : Nat} {i : Int} (h0 : 0 ≤ i) (h1 : i < (n : Int)) : ixN n i = some i.toNat := by
  unfold ixN
  rw [if_pos h0, if_pos h1]
theorem atI_pos {α : Type} {xs : List α} {i : Int} (h0 : 0 ≤ i) (h1 : i < (xs.length : Int)) : atI xs i = xs[i.toNat]? := by
  unfold atI
  rw [ixN_nat h0 h1]
  rfl
theorem ix_list {ds : List D} {i : Int} {x : D} (h0 : 0 ≤ i) (h : ds[i.toNat]? = some x) : fnIx (.list ds) (.int i) = some x := by
  have := (List.getElem?_eq_some_iff.mp h).1
  show atI ds i = _
  rw [atI_pos h0 (by omega), h]
theorem ix_tup {ds : List D} {i : Int} {x : D} (h0 : 0 ≤ i) (h : ds[i.toNat]? = some x) : fnIx (.tuple ds) (.int i) = some x := ix_list h0 h
theorem ix_listN {ds : List D} {i : Nat} {x : D} (h : ds[i]? = some x) : fnIx (.list ds) (.int i) = some x := ix_list (by omega) (by simpa using h)
theorem ix_tupN {ds : List D} {i : Nat} {x : D} (h : ds[i]? = some x) : fnIx (.tuple ds) (.int i) = some x := ix_list (by omega) (by simpa using h)
theorem ix_list_ints {ns : List Int} {i : Int} (h0 : 0 ≤ i) (h1 : i < (ns.length : Int)) : fnIx (.list (ns.map .int)) (.int i) = some (.int (ns.getD i.toNat 0)) := by
  have hj : i.toNat < ns.length := by omega
  exact ix_list h0 (by simp [hj])
theorem ix_tup_ints {ns : List Int} {i : Int} (h0 : 0 ≤ i) (h1 : i < (ns.length : Int)) : fnIx (.tuple (ns.map .int)) (.int i) = some (.int (ns.getD i.toNat 0)) := ix_list_ints h0 h1
theorem ix_scr {ns : List Int} {i : Int} (h0 : 0 ≤ i) (h1 : i < (ns.length : Int)) : fnIx (scrD ns) (.int i) = some (.int (ns.getD i.toNat 0)) := by
  show (atI (ns.map fun n => ((PyData.int n, PyData.none) : D × D)) i).map (fun p => p.1) = _
  rw [atI_map, atI_pos h0 h1]
  have hj : i.toNat < ns.length := by omega
  simp [hj]
theorem lenScr {ns : List Int} : ((ns.map fun n => ((PyData.int n, PyData.none) : D × D)).length : Int) = (ns.length : Int) := by rw [List.length_map]
theorem setI_list {ds : List D} {i : Int} {x : D} (h0 : 0 ≤ i) (h1 : i < (ds.length : Int)) : fnSetI ds (.int i) x = some (ds.set i.toNat x) := by
  show (ixN ds.length i).map _ = _
  rw [ixN_nat h0 h1]; rfl
theorem setI_ints {ns : List Int} {i x : Int} (h0 : 0 ≤ i) (h1 : i < (ns.length : Int)) : fnSetI (ns.map .int) (.int i) (.int x) = some ((ns.set i.toNat x).map .int) := by
  rw [setI_list h0 (by rw [List.length_map]; exact h1), List.map_set]
/-! texts as lists of codes -/
theorem ix_str {t : List Nat} {i : Int} {c : Nat} (h0 : 0 ≤ i) (h : t[i.toNat]? = some c) : fnIx (.str (S t)) (.int i) = some (.str (S [c])) := by
  have := (List.getElem?_eq_some_iff.mp h).1
  show (atI t i).map _ = _
  rw [atI_pos h0 (by omega), h]; rfl
theorem sIx_nat' {n d k : Nat} (h : k ≤ n) : HT.sIx n d (some (k : Int)) = k := by rw [HT.sIx_nat]; omega
theorem cutL_mid {α : Type} {p m q : List α} {i j : Int} (hi : i = p.length) (hj : j = (p.length + m.length : Nat)) : cutL (p ++ (m ++ q)) (some i) (some j) = m := by
  subst hi hj
  unfold cutL
  rw [sIx_nat' (by simp), sIx_nat' (by simp)]
  rw [List.drop_left, Nat.add_sub_cancel_left, List.take_left]
theorem cutL_from {α : Type} {p q : List α} {i : Int} (hi : i = p.length) : cutL (p ++ q) (some i) none = q := by
  subst hi
  unfold cutL
  rw [sIx_nat' (by simp), HT.sIx_none, List.drop_left]
  apply List.take_of_length_le
  simp
theorem cutL_to {α : Type} {p q : List α} {i : Int} (hi : i = p.length) : cutL (p ++ q) none (some i) = p := by
  subst hi
  unfold cutL
  rw [sIx_nat' (by simp), HT.sIx_none]
  simp
theorem sl_str {t : List Nat} {lo hi : Option Int} {m : List Nat} (h : cutL t lo hi = m) : fnSl (.str (S t)) lo hi = some (.str (S m)) := by
  rw [← h]; unfold fnSl; rfl
theorem sl_list {t : List D} {lo hi : Option Int} {m : List D} (h : cutL t lo hi = m) : fnSl (.list t) lo hi = some (.list m) := by
  rw [← h]; unfold fnSl; rfl
theorem sl_tup {t : List D} {lo hi : Option Int} {m : List D} (h : cutL t lo hi = m) : fnSl (.tuple t) lo hi = some (.tuple m) := by
  rw [← h]; unfold fnSl; rfl
end L3
namespace L3
theorem lenOk {n : Nat} (h : Nat.ble n 100000 = true) : n ≤ PySem.sizeLine := Nat.le_trans (Nat.le_of_ble_eq_true h) (by decide)
theorem ltOk {n : Nat} (h : Nat.ble n 100000 = true) : n < PySem.sizeLine := Nat.lt_of_le_of_lt (Nat.le_of_ble_eq_true h) (by decide)
theorem lt_line {n : Nat} (h : n ≤ 16000000) : n < PySem.sizeLine := Nat.lt_of_le_of_lt h (by decide)
theorem le_line {n : Nat} (h : n ≤ 16000000) : n ≤ PySem.sizeLine := Nat.le_trans h (by decide)
end L3
namespace L3
theorem mulL {i j : Int} (h : -(2 ^ 64) < i ∧ i < 2 ^ 64) : cdMul (.int i) (.int j) := .inl (.inl h)
theorem mulR {i j : Int} (h : -(2 ^ 64) < j ∧ j < 2 ^ 64) : cdMul (.int i) (.int j) := .inl (.inr h)
theorem modC {i j : Int} (h : 0 < j) : cdMod (.int i) (.int j) := h
theorem divC {i j : Int} (h : 0 < j ∧ j < 1073741824) : cdDiv (.int i) (.int j) := .inl h
end L3
namespace L3
open PySem PySem.Spec PyProof.Rows L2
theorem Fn3.mono {P : Program} {w : World} {K : PySem.W.Frag} {mg : Str → Option Value} {base : Heap} {j k : Nat} {x : Str} {n : Nat} {b : Option Nat} {sp : Sp3} (c : Fn3 P w K mg base j x n b sp) (h : j ≤ k) : Fn3 P w K mg base k x n b sp := by
  obtain ⟨f, fd, ps, h1, h2, h3⟩ := c.ex
  exact ⟨c.hb, f, fd, ps, h1, h2.mono h, h3⟩
theorem Fn3.imp {P : Program} {w : World} {K : PySem.W.Frag} {mg : Str → Option Value} {base : Heap} {k : Nat} {x : Str} {n : Nat} {b : Option Nat} {sp sp' : Sp3} (c : Fn3 P w K mg base k x n b sp) (h : ∀ ars Q E, sp' ars Q E → sp ars Q E) : Fn3 P w K mg base k x n b sp' := by
  obtain ⟨f, fd, ps, h1, h2, h3⟩ := c.ex
  exact ⟨c.hb, f, fd, ps, h1, h2.imp fun vs H Q E ⟨F, ars, Q3, g1, g2, g3, g4, g5, g6, g7, g8⟩ => ⟨F, ars, Q3, g1, g2, g3, g4, g5, g6, h _ _ _ g7, g8⟩, h3⟩
/-- the promise that asks for what is never -/
def spNo : Sp3 := fun _ _ _ => False
theorem fn3_no {P : Program} {w : World} {K : PySem.W.Frag} {mg : Str → Option Value} {base : Heap} {k : Nat} {x : Str} {n : Nat} {b : Option Nat} {f : Addr} {fd : FuncData} {ps : List Str} (hn : ps.length = n) (hb : ∀ j, b = some j → j < n) (hm : mg x = some (.ref f)) (hk : PySem.W.keepIn K (.ref f) = true) (hbi : Binds K fd ps []) :
    Fn3 P w K mg base k x n b spNo := by
  refine ⟨hb, f, fd, ps, hn, ⟨?_, ?_⟩, hm, hk, hbi⟩
  · rintro vs H Q E ⟨F, ars, Q3, g1, g2, g3, g4, g5, g6, g7, g8⟩; exact g7.elim
  · rintro A outer s H args us vs Q E _ _ _ _ ⟨F, ars, Q3, g1, g2, g3, g4, g5, g6, g7, g8⟩; exact g7.elim
/-- values that are compared piece by piece -/
def AtD (x : D) : Prop := x = .none ∨ (∃ b, x = .bool b) ∨ (∃ n, x = .int n) ∨ ∃ s, x = .str s
def SameD : Nat → D → Prop
  | 0, x => AtD x
  | d + 1, x => AtD x ∨ ∃ xs : List D, x = .tuple xs ∧ xs.length ≤ 16000000 ∧ ∀ y ∈ xs, SameD d y
end L3
namespace L3
theorem ifT {c A B : Prop} [Decidable c] (h : c) (a : A) : if c then A else B := by rw [if_pos h]; exact a
theorem ifF {c A B : Prop} [Decidable c] (h : ¬ c) (a : B) : if c then A else B := by rw [if_neg h]; exact a
end L3

namespace L3
open PySem PySem.Spec PyProof.Rows L2 SX
/-! ### steps of texts -/
theorem eqS {a b : List Nat} : eqD (.str (S a)) (.str (S b)) = decide (a = b) := by
  show decide (S a = S b) = _
  by_cases h : a = b
  · subst h; simp
  · rw [decide_eq_false h, decide_eq_false fun e => h (S_inj e)]
theorem cutL_one {α : Type} {xs : List α} {i : Nat} {j k : Int} (hj : j = (i : Int)) (hk : k = ((i + 1 : Nat) : Int)) : cutL xs (some j) (some k) = (xs.drop i).take 1 := by
  subst hj hk
  unfold cutL
  rw [HT.sIx_nat, HT.sIx_nat]
  by_cases h : i + 1 ≤ xs.length
  · rw [show min i xs.length = i by omega, show min (i + 1) xs.length = i + 1 by omega, Nat.add_sub_cancel_left]
  · rw [show min i xs.length = xs.length by omega, show min (i + 1) xs.length = xs.length by omega, Nat.sub_self, List.drop_eq_nil_of_le (Nat.le_refl _), List.drop_eq_nil_of_le (by omega)]
    rfl
theorem oneS {t : List Nat} {i : Nat} {j k : Int} (hj : j = (i : Int)) (hk : k = ((i + 1 : Nat) : Int)) : fnSl (.str (S t)) (some j) (some k) = some (.str (S ((t.drop i).take 1))) := sl_str (cutL_one hj hk)
theorem oneS0 {t : List Nat} {k : Int} (hk : k = 1) : fnSl (.str (S t)) none (some k) = some (.str (S (t.take 1))) := by
  subst hk
  refine sl_str ?_
  unfold cutL
  rw [HT.sIx_none, show (some (1 : Int)) = some ((1 : Nat) : Int) from rfl, HT.sIx_nat]
  by_cases h : 1 ≤ t.length
  · rw [show min 1 t.length = 1 by omega]; rfl
  · have : t = [] := List.eq_nil_of_length_eq_zero (by omega)
    subst this; rfl
theorem midS {p m q : List Nat} {i j : Int} (hi : i = p.length) (hj : j = (p.length + m.length : Nat)) : fnSl (.str (S (p ++ (m ++ q)))) (some i) (some j) = some (.str (S m)) := sl_str (cutL_mid hi hj)
theorem toS {p q : List Nat} {i : Int} (hi : i = p.length) : fnSl (.str (S (p ++ q))) none (some i) = some (.str (S p)) := sl_str (cutL_to hi)
theorem inS {c : Nat} {a : List Nat} : fnIn (.str (S [c])) (.str (S a)) = some (.bool (decide (c ∈ a))) := rfl
theorem notInS {c : Nat} {a : List Nat} : fnNotIn (.str (S [c])) (.str (S a)) = some (.bool (!decide (c ∈ a))) := rfl
theorem strN {n : Nat} : fnStr [.int (n : Int)] = some (.str (S (TL.numL n))) := by
  show some (PyData.str (Str.ofString (toString ((n : Nat) : Int)))) = _
  rw [num_S]
theorem cdStrN {n k : Nat} (h : n < 2 ^ k) (hk : k ≤ 1920) : cdStr [.int (n : Int)] := by
  show (n : Int).natAbs.log2 < 1920
  rw [Int.natAbs_natCast]
  by_cases h0 : n = 0
  · subst h0; decide
  · exact Nat.lt_of_lt_of_le ((Nat.log2_lt h0).mpr h) hk
theorem intN {n : Nat} (h : (TL.numL n).length ≤ 4300) : fnInt [.str (S (TL.numL n))] = some (.int (n : Int)) := by
  show (intText? (S (TL.numL n))).map PyData.int = _
  rw [← num_S, TL.int_num h]
  rfl
theorem joinN {ps : List (List Nat)} : Txt.join (S []) (ps.map S) = S (ps.flatten) := by
  rw [join_S]
  congr 1
  induction ps with
  | nil => rfl
  | cons p ps ih =>
    cases ps with
    | nil => simp [TL.joinL]
    | cons q r => 
      show p ++ ([] ++ TL.joinL [] (q :: r)) = _
      rw [ih]; simp
theorem strs_of {ps : List (List Nat)} : strsD (ps.map fun p => PyData.str (S p)) = some (ps.map S) := by
  have := strsD_map (ps.map S)
  rw [List.map_map] at this
  exact this
theorem sum_len (ps : List (List Nat)) : ((ps.map S).map (·.length)).sum = ps.flatten.length := by
  rw [lens, List.length_flatten]
theorem joinE {ps : List (List Nat)} : fnJoin (.str (S [])) [.list (ps.map fun p => PyData.str (S p))] = some (.str (S ps.flatten)) := by
  show (strsD _).map (fun ys => PyData.str (Txt.join (S []) ys)) = _
  rw [strs_of, Option.map_some, joinN]
theorem cdJoinE {ps : List (List Nat)} (h : ps.flatten.length ≤ 16777216) : cdJoin (.str (S [])) [.list (ps.map fun p => PyData.str (S p))] := by
  have e : cdJoin (.str (S [])) [.list (ps.map fun p => PyData.str (S p))] = (match (some (ps.map fun p => PyData.str (S p))).bind strsD with
    | some ys => (ys.map (·.length)).sum + ys.length * (S []).length ≤ 16777216
    | none => False) := rfl
  rw [e, Option.bind_some, strs_of]
  show ((ps.map S).map (·.length)).sum + _ * 0 ≤ _
  rw [sum_len]; omega
theorem getD_in {ns : List Int} {i : Nat} (hi : i < ns.length) : ns.getD i 0 ∈ ns := by
  rw [List.getD_eq_getElem?_getD, List.getElem?_eq_getElem hi]
  exact List.getElem_mem hi
theorem getD_inN {ns : List Nat} {i : Nat} (hi : i < ns.length) : ns.getD i 0 ∈ ns := by
  rw [List.getD_eq_getElem?_getD, List.getElem?_eq_getElem hi]
  exact List.getElem_mem hi
theorem ix_list_nats {ns : List Nat} {i : Nat} (h1 : i < ns.length) : fnIx (.list (ns.map fun n : Nat => PyData.int (n : Int))) (.int (i : Int)) = some (.int ((ns.getD i 0 : Nat) : Int)) := by
  refine ix_listN ?_
  rw [List.getElem?_map, List.getElem?_eq_getElem h1]
  simp [h1]
theorem ix_tup_nats {ns : List Nat} {i : Nat} (h1 : i < ns.length) : fnIx (.tuple (ns.map fun n : Nat => PyData.int (n : Int))) (.int (i : Int)) = some (.int ((ns.getD i 0 : Nat) : Int)) := ix_list_nats h1
theorem addS {a b : List Nat} : fnAdd (.str (S a)) (.str (S b)) = some (.str (S (a ++ b))) := by
  show some (PyData.str (S a ++ S b)) = _
  rw [S_cat]
theorem iaddS {a b : List Nat} : fnIAdd (.str (S a)) (.str (S b)) = some (.str (S (a ++ b))) := addS
theorem cdAddS {a b : List Nat} (h : a.length + b.length ≤ 16777216) : cdAdd (.str (S a)) (.str (S b)) := h
theorem cdIAddS {a b : List Nat} (h : a.length + b.length ≤ 16777216) : cdIAdd (.str (S a)) (.str (S b)) := h
theorem cdSlS {a : List Nat} (h : a.length ≤ 16777216) : cdSl (.str (S a)) := h
theorem cdIxS {a : List Nat} {i : Int} (h : a.length ≤ 16777216) : cdIx (.str (S a)) (.int i) := h
theorem cdIntS {a : List Nat} (h : a.length ≤ 640) : cdInt [.str (S a)] := h
theorem cdLenS {a : List Nat} (h : a.length ≤ 16777216) : cdLen [.str (S a)] := h
theorem lc_rng0 {n : Nat} {f : Nat → D} {st : En} {step : Nat → D → List D → En → (Nat → List D → En → Prop) → Prop} {done : List D → En → Prop} (hl : n ≤ sizeLine)
    (hs : ∀ (i : Nat) acc P, i < n → acc.length < sizeLine → P (i + 1) (acc ++ [f i]) st → step i (.int i) acc st P) (hd : done ((List.range n).map f) st) : LcOb (rngD 0 1 n) st step done := by
  rw [rngD0]
  refine lc_map (f := f) (by simpa using hl) (fun k a acc P ha hacc p => ?_) hd
  obtain ⟨h1, h2⟩ := List.getElem?_eq_some_iff.mp ha
  have e : k = a := by rw [List.getElem_range] at h2; exact h2
  subst e
  exact hs k acc P (by simpa using h1) hacc p
theorem powC {i j : Int} (h : 0 ≤ j ∧ j ≤ 1000000 ∧ i.natAbs < 2 ^ 64) : cdPow (.int i) (.int j) := h
theorem lc_rngI {n : Nat} {st : En} {step : Nat → D → List D → En → (Nat → List D → En → Prop) → Prop} {done : List D → En → Prop} (Inv : Nat → List D → En → Prop) (h0 : Inv 0 [] st)
    (hs : ∀ (i : Nat) acc ρ P, i < n → Inv i acc ρ → (∀ acc' ρ', Inv (i + 1) acc' ρ' → P (i + 1) acc' ρ') → step i (.int i) acc ρ P) (hd : ∀ acc ρ, Inv n acc ρ → done acc ρ) : LcOb (rngD 0 1 n) st step done := by
  rw [rngD0]
  refine lc_pre (fun pre acc ρ => Inv pre.length acc ρ) h0 (fun pre a post acc ρ P e i k => ?_) fun acc ρ i => hd acc ρ (by simpa using i)
  have e1 : (List.range n)[pre.length]? = some a := by rw [e]; simp
  obtain ⟨h1, h2⟩ := List.getElem?_eq_some_iff.mp e1
  have e2 : pre.length = a := by rw [List.getElem_range] at h2; exact h2
  subst e2
  exact hs _ acc ρ P (by simpa using h1) i fun acc' ρ' z => k acc' ρ' (by simpa using z)
theorem in_room {k : Nat} {A : Around} (h : Room k A) : A.units + 65 < cLine := by have := h.un; omega
theorem p3globE {X : Cx} {E : XK} {pos : Pos} {x : Str} {v : V} {d : D} (hg : Gl X x) (hm : ∃ u, X.mg x = some u ∧ RelV v u) (hd : ∀ H ok, Rp X.K H ok v d) (hdb : (x == ("__debug__" : Str)) = false := by decide) : PE3 X E (.Name x pos) (t3d d) := by
  obtain ⟨u, h1, h2⟩ := hm
  exact p3glob hg h1 h2 hd hdb
/-- either test: what follows if one holds is shown once -/
theorem orT {c : Bool} {B R : Prop} (h : B) (h2 : ¬ c = true → B → R) : if c = true then B else R := by
  by_cases e : c = true
  · rw [if_pos e]; exact h
  · rw [if_neg e]; exact h2 e h
/-- the state written out -/
theorem at_st {G : En → Prop} {ρ ρ' : En} (h : ρ = ρ') (k : G ρ') : G ρ := h ▸ k
/-! ### the end -/
theorem prom_law {K : PySem.W.Frag} {sp : Sp3} {H : Hp} {a : Addr} {ns : List Int} (hO : Only H) (hS : SqL K H a (ns.map V.int)) (h : sp [.d (scrD ns)] (fun r _ => r = .d (.bool true)) noE) :
    prom K 1 none sp [.ref a] H (fun v _ => v = .bl true) fun _ _ _ => False := by
  have hq : SqS K H a (ns.map V.int) := by
    rcases hS with (e | e) | e
    · rcases hO a with z | ⟨o, xs, z⟩
      · rw [z] at e; cases e
      · rw [z] at e; cases e
    · exact .inl e
    · exact .inr (.inr e)
  refine ⟨⟨H, fun _ => none, fun _ => True, fun _ _ => trivial, noE⟩, [.d (scrD ns)], fun r _ => r = .d (.bool true), rfl, rfl, ⟨rfl, ⟨List.nodup_nil, fun c hc => ?_, fun b o h _ => h, (fun k a h => by cases h)⟩, (fun p hp => by cases hp)⟩, (fun k a h => by cases h), (fun k h => by cases h), ⟨fun _ _ h => h.elim, fun _ _ _ _ _ h => h.elim⟩, h, ?_⟩
  · have e : c = (some (.ref a), .d (scrD ns)) := List.mem_singleton.mp hc
    subst e
    exact .scr hq
  · rintro r out v H' rfl f
    have := f.s.ok (some v, .d (.bool true)) (List.mem_append_left _ List.mem_cons_self)
    exact Rp.bl_inv this
end L3

namespace Law
open PySem PySem.Spec PyProof.Rows L2 L3
local macro_rules
  | `(tactic| walk_at "x") => `(tactic| first | refine ⟨_, rfl, trivial, ?_⟩ | refine ⟨_, rfl, ?_⟩ | refine ⟨_, _, rfl, trivial, ?_⟩ | refine ⟨_, _, rfl, ?_⟩ | refine ⟨_, _, _, rfl, ?_⟩ | refine ⟨_, _, _, _, _, rfl, ?_⟩ | refine ⟨lenOk rfl, ?_⟩ | refine ⟨ltOk rfl, ?_⟩ | refine ⟨rfl, ?_⟩ | refine ⟨mulR ⟨by decide, by decide⟩, ?_⟩ | refine ⟨mulL ⟨by decide, by decide⟩, ?_⟩ | refine ⟨modC (by decide), ?_⟩ | refine ⟨divC (by decide), ?_⟩ | refine iteT ?_ | refine iteF ?_)
local macro_rules
  | `(tactic| walk_at "xs") => `(tactic| repeat (walk_at "x"))
local macro_rules
  | `(tactic| walk_at "r") => `(tactic| refine ⟨⟨by omega, by omega⟩, ?_⟩)
def topS (i : Nat) : Stmt := PySem.Challenge.pw_creasehold_k65_texts_of_strips_and_bands.main.body.getD i (.Pass ⟨0, 0, 0, 0⟩)
abbrev s__law_take : Stmt := topS 13
theorem sc__law_take : FnScope ["draws", "many"] ["draws", "many"] (defScope s__law_take) := ⟨rfl, rfl, rfl, by decide +kernel, rfl, by decide +kernel, by decide +kernel⟩
abbrev s__law_raw : Stmt := topS 14
theorem sc__law_raw : FnScope ["script", "draws"] ["script", "draws"] (defScope s__law_raw) := ⟨rfl, rfl, rfl, by decide +kernel, rfl, by decide +kernel, by decide +kernel⟩
abbrev s__law_draws : Stmt := topS 12
theorem sc__law_draws : FnScope ["script", "many", "cells", "rest", "draws", "k", "at", "mixed", "cell"] ["script", "many"] (defScope s__law_draws) := ⟨rfl, rfl, rfl, by decide +kernel, rfl, by decide +kernel, by decide +kernel⟩
abbrev s__law_same : Stmt := topS 15
theorem sc__law_same : FnScope ["told", "due", "k"] ["told", "due"] (defScope s__law_same) := ⟨rfl, rfl, rfl, by decide +kernel, rfl, by decide +kernel, by decide +kernel⟩
section
variable {P : Program} {w : World} {K : PySem.W.Frag} {mg : Str → Option Value} {base : Heap}
def sp_take : Sp3 := fun ars Q _ => ∃ (ds : List Int) (n : Int), ars = [.bo (.lst (ds.map .int)), .d (.int n)] ∧ 0 < n ∧ ∀ (r : Int) (es : List Int), 0 ≤ r → r < n → Q (.d (.int r)) (.lst (es.map .int))
theorem ok_take {f : Addr} {fd : FuncData} (F : Fun K "_law_take" "_law_take" s__law_take f fd) (hm : mg "_law_take" = some (.ref f)) (hb : Binds K fd ["draws", "many"] []) (m_len : mg "len" = none) (m_int : mg "int" = none) :
    Fn3 P w K mg base 1 "_law_take" 2 (some 0) sp_take := by
  refine ok3 F sc__law_take rfl (by decide) hm hb fun cdv A outer s H hr => ⟨_, (b3cons (s3if (t3cmp (o_eq hr.units) (p3callB c_len (by rfl) m_len (by decide +kernel) (a3cons (pv3 0) a3nil)) p3int (nomark _)) (b3one (s3ret p3int)) b3nil)
      (b3one (s3ret (p3op o_mod (p3callTy c_int (by rfl) m_int (by decide +kernel) (a3cons (p3meth0 PySem.F.plainAttrs_list PySem.F.slot_list_pop PySem.F.type_list_pop m_pop (pv3 0)) a3nil)) (pv3 1))))), fun ars Q3 E3 hl h => ?_⟩
  obtain ⟨ds, n, rfl, hn, q⟩ := h
  walk_at "xs"
  refine ite2 (fun e => ?_) (fun e => ?_)
  · walk_at "xs"
    exact q 0 ds (by decide) hn
  · obtain ⟨es, y, rfl⟩ := lenInts e
    walk_at "xs"
    refine ⟨_, _, popInts, trivial, ?_⟩
    walk_at "xs"
    refine ⟨hn, ?_⟩
    walk_at "xs"
    exact q _ es (Int.emod_nonneg _ (by omega)) (Int.emod_lt_of_pos _ hn)
def sp_raw : Sp3 := fun ars Q _ => ∃ (ns ds : List Int), ars = [.d (scrD ns), .bo (.lst (ds.map .int))] ∧ ∀ (r : Int) (es : List Int), Q (.d (.int r)) (.lst (es.map .int))
theorem ok_raw {f : Addr} {fd : FuncData} (F : Fun K "_law_raw" "_law_raw" s__law_raw f fd) (hm : mg "_law_raw" = some (.ref f)) (hb : Binds K fd ["script", "draws"] []) (m_len : mg "len" = none) (m_int : mg "int" = none)
    (c__law_take : Fn3 P w K mg base 1 "_law_take" 2 (some 0) sp_take) :
    Fn3 P w K mg base 2 "_law_raw" 2 (some 1) sp_raw := by
  refine ok3 F sc__law_raw rfl (by decide) hm hb fun cdv A outer s H hr => ⟨_, (b3cons (s3if (t3cmp (o_eq hr.units) (p3callB c_len (by rfl) m_len (by decide +kernel) (a3cons (pv3 0) a3nil)) p3int (nomark _)) (b3one (s3ret p3int)) b3nil)
      (b3one (s3ret (p3callTy c_int (by rfl) m_int (by decide +kernel) (a3cons (p3ix (pv3 0) (p3call c__law_take hr (by omega) (by rfl) (a3cons (pv3 1) (a3cons (p3callB c_len (by rfl) m_len (by decide +kernel) (a3cons (pv3 0) a3nil)) a3nil))) (fun _ _ => rfl)) a3nil))))), fun ars Q3 E3 hl h => ?_⟩
  obtain ⟨ns, ds, rfl, q⟩ := h
  walk_at "xs"
  refine ite2 (fun e => ?_) (fun e => ?_)
  · walk_at "xs"
    exact q 0 ds
  · have hpos : 0 < ns.length := by
      cases ns with
      | nil => exact absurd rfl e
      | cons _ _ => exact Nat.succ_pos _
    walk_at "xs"
    refine ⟨?_, fun r es h0 h1 => ?_⟩
    · show (0 : Int) < ((ns.map fun n => ((.int n, .none) : D × D)).length : Int)
      rw [lenScr]; omega
    · have h1 : r < (ns.length : Int) := by
        rw [← lenScr]; exact h1
      walk_at "xs"
      refine ⟨_, ix_scr h0 h1, trivial, ?_⟩
      walk_at "xs"
      exact q _ es
theorem mixOk (a : Int) : -(2 ^ 64) < a % 2147483647 ∧ a % 2147483647 < 2 ^ 64 := ⟨Int.lt_of_lt_of_le (by decide) (Int.emod_nonneg _ (by decide)), Int.lt_trans (Int.emod_lt_of_pos _ (by decide)) (by decide)⟩
def sp_draws : Sp3 := fun ars Q _ => ∃ (ns : List Int) (m : Nat), ars = [.d (scrD ns), .d (.int m)] ∧ ns.length ≤ 63 ∧ m ≤ 100000 ∧ ∀ (ds : List Int), Q (.nw (.lst (ds.map .int))) (.lst [])
theorem ok_draws {f : Addr} {fd : FuncData} (F : Fun K "_law_draws" "_law_draws" s__law_draws f fd) (hm : mg "_law_draws" = some (.ref f)) (hb : Binds K fd ["script", "many"] []) (m_len : mg "len" = none) (m_int : mg "int" = none) (m_list : mg "list" = none) (m_range : mg "range" = none) :
    Fn3 P w K mg base 1 "_law_draws" 2 none sp_draws := by
  refine ok3 F sc__law_draws rfl (by decide) hm hb fun cdv A outer s H hr => ⟨_, (b3cons (s3setLc (i := 2) (own := [("cell", 8)]) (by rfl) sc__law_draws.nd rfl rfl (sw_true rfl rfl rfl (by decide +kernel)) (i3seq (pv3 0)) (blkOk_by (own := [("cell", 8)]) (N := ["script", "many", "cells", "rest", "draws", "k", "at", "mixed", "cell"]) (sc := defScope s__law_draws) (by decide +kernel)) (by decide) (fun _ _ _ _ _ => (g3name (i := 8) sc__law_draws.nd rfl (.inl rfl))) (fun _ _ _ _ _ => ts3nil) (fun _ _ _ _ _ => (p3callTy c_int (by rfl) m_int (by decide +kernel) (a3cons (pv3 8) a3nil))))
      (b3cut (s3if (t3cmp (o_eq hr.units) (p3callB c_len (by rfl) m_len (by decide +kernel) (a3cons (pv3 2) a3nil)) p3int (nomark _)) (b3one (s3expr (p3meth PySem.F.plainAttrs_list PySem.F.slot_list_append PySem.F.type_list_append m_append (pv3 2) (a3cons p3int a3nil)))) b3nil)
      (b3cons (s3set (i := 3) sc__law_draws.nd rfl (.inl rfl) (p3callTy c_list (by rfl) m_list (by decide +kernel) (a3cons (pv3 2) a3nil)))
      (b3cons (s3set (i := 4) sc__law_draws.nd rfl (.inl rfl) (p3lst a3nil))
      (b3cons (s3for PassesOwn.never (by rfl) (i3rng1 (by rfl) m_range (a3cons (pv3 1) a3nil)) (g3name (i := 5) sc__law_draws.nd rfl (.inl rfl)) (b3cons (s3set (i := 6) sc__law_draws.nd rfl (.inl rfl) (p3op o_mod (p3callTy c_int (by rfl) m_int (by decide +kernel) (a3cons (pv3 5) a3nil)) (p3callB c_len (by rfl) m_len (by decide +kernel) (a3cons (pv3 2) a3nil))))
      (b3one (s3if (t3pw (w3and (t3cmp o_ge (p3ix (pv3 2) (pv3 6) (fun _ _ => rfl)) (p3op o_pow p3int p3int) (nomark _)) (w3and1 (t3cmp o_gt (p3ix (pv3 3) (pv3 6) (fun _ _ => rfl)) p3int (nomark _))))) (b3cons (s3expr (p3meth PySem.F.plainAttrs_list PySem.F.slot_list_append PySem.F.type_list_append m_append (pv3 4) (a3cons (p3op o_mod (p3callTy c_int (by rfl) m_int (by decide +kernel) (a3cons (p3ix (pv3 3) (pv3 6) (fun _ _ => rfl)) a3nil)) p3int) a3nil)))
      (b3one (s3setI (pv3 3) (pv3 6) (p3op o_div (p3ix (pv3 3) (pv3 6) (fun _ _ => rfl)) p3int)))) (b3cons (s3set (i := 7) sc__law_draws.nd rfl (.inl rfl) (p3op o_mod (p3callTy c_int (by rfl) m_int (by decide +kernel) (a3cons (p3op o_add (p3op o_add (p3op o_mul (p3ix (pv3 2) (pv3 6) (fun _ _ => rfl)) p3int) (p3op o_mul (pv3 5) p3int)) p3int) a3nil)) p3int))
      (b3one (s3expr (p3meth PySem.F.plainAttrs_list PySem.F.slot_list_append PySem.F.type_list_append m_append (pv3 4) (a3cons (p3op o_mod (p3callTy c_int (by rfl) m_int (by decide +kernel) (a3cons (p3op o_add (p3op o_add (p3op o_mul (pv3 7) (pv3 7)) (p3op o_mul p3int (pv3 7))) (pv3 5)) a3nil)) p3int) a3nil)))))))))
      (b3cons (s3expr (p3meth0 PySem.F.plainAttrs_list PySem.F.slot_list_reverse PySem.F.type_list_reverse m_reverse (pv3 4)))
      (b3one (s3ret (pv3 4))))))))), fun ars Q3 E3 hl h => ?_⟩
  obtain ⟨ns, m, rfl, hns, hm1, q⟩ := h
  walk_at "x"
  refine ⟨ns.map .int, _, by simp [frzR, itemsOf, scrD, Function.comp_def]; rfl, ?_⟩
  refine lc_map (f := .int) (Nat.le_trans hns (by decide)) (fun k a acc P ha hacc p => ?_) ?_
  · walk_at "xs"
    exact ⟨hacc, p⟩
  walk_at "xs"
  refine .mk (fun ρ => ∃ cs : List Int, cs ≠ [] ∧ cs.length ≤ 63 ∧ ρ = [.d (scrD ns), .d (.int m), .ow none (.lst (cs.map .int)), .no, .no, .no, .no, .no, .no]) ?_ ?_
  · walk_at "xs"
    refine ite2 (fun e => ?_) (fun e => ?_)
    · have : ns = [] := by
        cases ns with
        | nil => rfl
        | cons a r =>
          have : ((((a :: r).map PyData.int).length : Int) = 0) := of_decide_eq_true e
          simp at this
          omega
      subst this
      walk_at "xs"
      exact ⟨[0], by simp, by simp, rfl⟩
    · exact ⟨ns, fun z => e (by rw [z]; rfl), hns, rfl⟩
  · rintro ρ ⟨cs, hcs, hcl, rfl⟩
    have hpos : 0 < cs.length := List.length_pos_iff.mpr hcs
    walk_at "xs"
    walk_at "r"
    refine for_rng0 (fun i ρ => ∃ (rs dr : List Int) (s5 s6 s7 : Sl), rs.length = cs.length ∧ dr.length = i ∧
      ρ = [.d (scrD ns), .d (.int m), .ow none (.lst (cs.map .int)), .ow none (.lst (rs.map .int)), .ow none (.lst (dr.map .int)), s5, s6, s7, .no]) ⟨cs, [], _, _, _, rfl, rfl, rfl⟩ ?_ ?_
    · rintro i ρ P hi ⟨rs, dr, s5, s6, s7, hrs, hdr, rfl⟩ hP
      have hdl : (dr.map PyData.int).length < sizeLine := by
        rw [List.length_map, hdr]
        have : i < m := by simpa using hi
        exact Nat.lt_of_lt_of_le (Nat.lt_of_lt_of_le this hm1) (by decide)
      have hla : ((cs.map PyData.int).length : Int) = cs.length := by rw [List.length_map]
      walk_at "xs"
      refine ⟨by show (0 : Int) < ((cs.map PyData.int).length : Int); omega, ?_⟩
      have at0 : 0 ≤ ((i : Int) % ((cs.map PyData.int).length : Int)) := Int.emod_nonneg _ (by omega)
      have at1 : ((i : Int) % ((cs.map PyData.int).length : Int)) < (cs.length : Int) := by
        have := Int.emod_lt_of_pos (i : Int) (show (0 : Int) < ((cs.map PyData.int).length : Int) by omega)
        omega
      have at2 : ((i : Int) % ((cs.map PyData.int).length : Int)) < (rs.length : Int) := by omega
      walk_at "xs"
      refine ⟨_, ix_list_ints at0 at1, trivial, ?_⟩
      walk_at "xs"
      refine ⟨⟨by decide, by decide, by decide⟩, ?_⟩
      walk_at "xs"
      refine ite2 (fun e1 => ?_) (fun e1 => iteF ?_)
      · walk_at "xs"
        refine ⟨_, ix_list_ints at0 at2, trivial, ?_⟩
        walk_at "xs"
        refine ite2 (fun e2 => ?_) (fun e2 => ?_)
        · walk_at "xs"
          refine ⟨_, ix_list_ints at0 at2, trivial, ?_⟩
          walk_at "xs"
          refine ⟨hdl, ?_⟩
          walk_at "xs"
          refine ⟨_, ix_list_ints at0 at2, trivial, ?_⟩
          walk_at "xs"
          refine ⟨_, setI_ints at0 at2, ?_⟩
          exact hP _ ⟨rs.set ((i : Int) % ((cs.map PyData.int).length : Int)).toNat (rs.getD ((i : Int) % ((cs.map PyData.int).length : Int)).toNat 0 / 1000), dr ++ [_], _, _, _, by rw [List.length_set]; exact hrs, by simp [hdr], by rw [List.map_append]; rfl⟩
        · skip
          walk_at "xs"
          refine ⟨_, ix_list_ints at0 at1, trivial, ?_⟩
          walk_at "xs"
          refine ⟨mulL (mixOk _), ?_⟩
          walk_at "xs"
          refine ⟨hdl, ?_⟩
          exact hP _ ⟨rs, dr ++ [_], _, _, _, hrs, by simp [hdr], by rw [List.map_append]; rfl⟩
      · skip
        walk_at "xs"
        refine ⟨_, ix_list_ints at0 at1, trivial, ?_⟩
        walk_at "xs"
        refine ⟨mulL (mixOk _), ?_⟩
        walk_at "xs"
        refine ⟨hdl, ?_⟩
        exact hP _ ⟨rs, dr ++ [_], _, _, _, hrs, by simp [hdr], by rw [List.map_append]; rfl⟩
    · rintro ρ ⟨rs, dr, s5, s6, s7, hrs, hdr, rfl⟩
      walk_at "xs"
      have := q dr.reverse
      rw [List.map_reverse] at this
      exact this
def sp_sameR (R : D → Prop) : Sp3 := fun ars Q _ => ∃ x, R x ∧ ars = [.d x, .d x] ∧ Q (.d (.bool true)) (.lst [])
abbrev sp_same (d : Nat) : Sp3 := sp_sameR (SameD d)
theorem ok_sameR {R : D → Prop} {k : Nat} {f : Addr} {fd : FuncData} (F : Fun K "_law_same" "_law_same" s__law_same f fd) (hm : mg "_law_same" = some (.ref f)) (hb : Binds K fd ["told", "due"] []) (m_isinstance : mg "isinstance" = none) (m_bool : mg "bool" = none) (m_int : mg "int" = none) (m_str : mg "str" = none) (m_tuple : mg "tuple" = none) (m_len : mg "len" = none) (m_range : mg "range" = none)
    (c__law_same : Fn3 P w K mg base k "_law_same" 2 none (sp_sameR R)) :
    Fn3 P w K mg base (k + 1) "_law_same" 2 none (sp_sameR fun x => AtD x ∨ ∃ xs : List D, x = .tuple xs ∧ xs.length ≤ 16000000 ∧ ∀ y ∈ xs, R y) := by
  refine ok3 F sc__law_same rfl (by decide) hm hb fun cdv A outer s H hr => ⟨_, (b3cons (s3if (t3cmp o_is (pv3 1) p3non (nomark _)) (b3one (s3ret (p3cmp o_is (pv3 0) p3non (nomark _)))) b3nil)
      (b3cons (s3if (t3val (p3isi .bool (pv3 1) (by rfl) m_isinstance (by rfl) m_bool (by decide +kernel))) (b3one (s3ret (p3and (p3isi .bool (pv3 0) (by rfl) m_isinstance (by rfl) m_bool (by decide +kernel)) (p3one (p3cmp (o_eq hr.units) (pv3 0) (pv3 1) (nomark _)))))) b3nil)
      (b3cons (s3if (t3val (p3isi .int (pv3 1) (by rfl) m_isinstance (by rfl) m_int (by decide +kernel))) (b3one (s3ret (p3and (p3isi .int (pv3 0) (by rfl) m_isinstance (by rfl) m_int (by decide +kernel)) (p3and (p3not (p3isi .bool (pv3 0) (by rfl) m_isinstance (by rfl) m_bool (by decide +kernel))) (p3one (p3cmp (o_eq hr.units) (pv3 0) (pv3 1) (nomark _))))))) b3nil)
      (b3cons (s3if (t3val (p3isi .str (pv3 1) (by rfl) m_isinstance (by rfl) m_str (by decide +kernel))) (b3one (s3ret (p3and (p3isi .str (pv3 0) (by rfl) m_isinstance (by rfl) m_str (by decide +kernel)) (p3one (p3cmp (o_eq hr.units) (pv3 0) (pv3 1) (nomark _)))))) b3nil)
      (b3cons (s3if (t3pw (w3or (t3notP (t3val (p3isi .tuple (pv3 0) (by rfl) m_isinstance (by rfl) m_tuple (by decide +kernel)))) (w3or1 (t3cmp (o_ne hr.units) (p3callB c_len (by rfl) m_len (by decide +kernel) (a3cons (pv3 0) a3nil)) (p3callB c_len (by rfl) m_len (by decide +kernel) (a3cons (pv3 1) a3nil)) (nomark _))))) (b3one (s3ret p3bl)) b3nil)
      (b3cons (s3for PassesOwn.never (by rfl) (i3rng1 (by rfl) m_range (a3cons (p3callB c_len (by rfl) m_len (by decide +kernel) (a3cons (pv3 1) a3nil)) a3nil)) (g3name (i := 2) sc__law_same.nd rfl (.inl rfl)) (b3one (s3if (t3notP (t3val (p3call c__law_same hr (by omega) (by rfl) (a3cons (p3ix (pv3 0) (pv3 2) (fun _ _ => rfl)) (a3cons (p3ix (pv3 1) (pv3 2) (fun _ _ => rfl)) a3nil))))) (b3one (s3ret p3bl)) b3nil)))
      (b3one (s3ret p3bl)))))))), fun ars Q3 E3 hl h => ?_⟩
  obtain ⟨x, hx, rfl, q⟩ := h
  rcases hx with (rfl | ⟨b, rfl⟩ | ⟨n, rfl⟩ | ⟨z, rfl⟩) | ⟨xs, rfl, hxl, hxs⟩
  · walk_at "xs"
    exact q
  · walk_at "xs"
    have e : eqD (.bool b) (.bool b) = true := by simp [eqD]
    rw [e]; exact q
  · walk_at "xs"
    have e : eqD (.int n) (.int n) = true := by simp [eqD]
    rw [e]; exact q
  · walk_at "xs"
    have e : eqD (.str z) (.str z) = true := by simp [eqD]
    rw [e]; exact q
  · walk_at "xs"
    refine ifF (by simp [eqD]) ?_
    walk_at "xs"
    walk_at "r"
    refine for_rng0 (fun i ρ => ∃ s, ρ = [.d (.tuple xs), .d (.tuple xs), s]) ⟨_, rfl⟩ ?_ ?_
    · rintro i ρ P hi ⟨s, rfl⟩ hP
      obtain ⟨y, hy⟩ : ∃ y, xs[i]? = some y := ⟨xs[i]'(by simpa using hi), List.getElem?_eq_getElem _⟩
      walk_at "xs"
      refine ⟨_, ix_tupN hy, trivial, ?_⟩
      walk_at "xs"
      refine ⟨_, ix_tupN hy, trivial, ?_⟩
      walk_at "xs"
      refine ⟨_, hxs y (List.mem_of_getElem? hy), rfl, ?_⟩
      walk_at "xs"
      exact hP _ ⟨_, rfl⟩
    · rintro ρ ⟨s, rfl⟩
      walk_at "xs"
      exact q
theorem ok_same {f : Addr} {fd : FuncData} (F : Fun K "_law_same" "_law_same" s__law_same f fd) (hm : mg "_law_same" = some (.ref f)) (hb : Binds K fd ["told", "due"] []) (m_isinstance : mg "isinstance" = none) (m_bool : mg "bool" = none) (m_int : mg "int" = none) (m_str : mg "str" = none) (m_tuple : mg "tuple" = none) (m_len : mg "len" = none) (m_range : mg "range" = none) :
    ∀ d : Nat, Fn3 P w K mg base (d + 1) "_law_same" 2 none (sp_same d)
  | 0 => (ok_sameR (R := fun _ => False) F hm hb m_isinstance m_bool m_int m_str m_tuple m_len m_range ((fn3_no (k := 0) rfl (by decide) hm F.kp hb).imp fun _ _ _ ⟨_, h, _⟩ => h.elim)).imp fun _ _ _ ⟨x, h, r⟩ => ⟨x, .inl h, r⟩
  | d + 1 => (ok_sameR F hm hb m_isinstance m_bool m_int m_str m_tuple m_len m_range (ok_same F hm hb m_isinstance m_bool m_int m_str m_tuple m_len m_range d)).imp fun _ _ _ h => h
end
end Law

namespace Law
open PySem PySem.Spec PyProof.Rows L2 L3 SX
local macro_rules
  | `(tactic| walk_at "x") => `(tactic| first | refine ⟨_, rfl, trivial, ?_⟩ | refine ⟨_, rfl, ?_⟩ | refine ⟨_, _, rfl, trivial, ?_⟩ | refine ⟨_, _, rfl, ?_⟩ | refine ⟨_, _, _, rfl, ?_⟩ | refine ⟨_, _, _, _, _, rfl, ?_⟩ | refine ⟨lenOk rfl, ?_⟩ | refine ⟨ltOk rfl, ?_⟩ | refine ⟨rfl, ?_⟩ | refine ⟨mulR ⟨by decide, by decide⟩, ?_⟩ | refine ⟨mulL ⟨by decide, by decide⟩, ?_⟩ | refine ⟨modC (by decide), ?_⟩ | refine ⟨divC (by decide), ?_⟩ | refine ⟨powC (by decide), ?_⟩ | refine iteT ?_ | refine iteF ?_)
local macro_rules
  | `(tactic| walk_at "xs") => `(tactic| repeat (walk_at "x"))
local macro_rules
  | `(tactic| walk_at "r") => `(tactic| refine ⟨⟨by omega, by omega⟩, ?_⟩)
local macro_rules
  | `(tactic| walk_at "t") => `(tactic| first | refine ⟨_, strN, ?_⟩ | refine ⟨_, addS, ?_⟩ | refine ⟨_, iaddS, ?_⟩ | refine ⟨_, oneS rfl rfl, ?_⟩ | walk_at "x")
local macro_rules
  | `(tactic| walk_at "ts") => `(tactic| repeat (walk_at "t"))
local macro_rules
  | `(tactic| walk_at "s1") => `(tactic| refine at_st (ρ' := [_]) rfl ?_)
local macro_rules
  | `(tactic| walk_at "s2") => `(tactic| refine at_st (ρ' := [_, _]) rfl ?_)
local macro_rules
  | `(tactic| walk_at "s3") => `(tactic| refine at_st (ρ' := [_, _, _]) rfl ?_)
local macro_rules
  | `(tactic| walk_at "s4") => `(tactic| refine at_st (ρ' := [_, _, _, _]) rfl ?_)
local macro_rules
  | `(tactic| walk_at "s5") => `(tactic| refine at_st (ρ' := [_, _, _, _, _]) rfl ?_)
local macro_rules
  | `(tactic| walk_at "s6") => `(tactic| refine at_st (ρ' := [_, _, _, _, _, _]) rfl ?_)
local macro_rules
  | `(tactic| walk_at "s7") => `(tactic| refine at_st (ρ' := [_, _, _, _, _, _, _]) rfl ?_)
local macro_rules
  | `(tactic| walk_at "s8") => `(tactic| refine at_st (ρ' := [_, _, _, _, _, _, _, _]) rfl ?_)
local macro_rules
  | `(tactic| walk_at "s9") => `(tactic| refine at_st (ρ' := [_, _, _, _, _, _, _, _, _]) rfl ?_)
local macro_rules
  | `(tactic| walk_at "s10") => `(tactic| refine at_st (ρ' := [_, _, _, _, _, _, _, _, _, _]) rfl ?_)
local macro_rules
  | `(tactic| walk_at "s11") => `(tactic| refine at_st (ρ' := [_, _, _, _, _, _, _, _, _, _, _]) rfl ?_)
local macro_rules
  | `(tactic| walk_at "s12") => `(tactic| refine at_st (ρ' := [_, _, _, _, _, _, _, _, _, _, _, _]) rfl ?_)
local macro_rules
  | `(tactic| walk_at "s13") => `(tactic| refine at_st (ρ' := [_, _, _, _, _, _, _, _, _, _, _, _, _]) rfl ?_)
local macro_rules
  | `(tactic| walk_at "s14") => `(tactic| refine at_st (ρ' := [_, _, _, _, _, _, _, _, _, _, _, _, _, _]) rfl ?_)
local macro_rules
  | `(tactic| walk_at "s15") => `(tactic| refine at_st (ρ' := [_, _, _, _, _, _, _, _, _, _, _, _, _, _, _]) rfl ?_)
local macro_rules
  | `(tactic| walk_at "s16") => `(tactic| refine at_st (ρ' := [_, _, _, _, _, _, _, _, _, _, _, _, _, _, _, _]) rfl ?_)
abbrev s_write_strip : Stmt := topS 5
theorem sc_write_strip : FnScope ["strip", "lengths", "signs", "part"] ["strip"] (defScope s_write_strip) := ⟨rfl, rfl, rfl, by decide +kernel, rfl, by decide +kernel, by decide +kernel⟩
abbrev s_write_band : Stmt := topS 6
theorem sc_write_band : FnScope ["band"] ["band"] (defScope s_write_band) := ⟨rfl, rfl, rfl, by decide +kernel, rfl, by decide +kernel, by decide +kernel⟩
abbrev s_length_end : Stmt := topS 7
theorem sc_length_end : FnScope ["text", "at", "end"] ["text", "at"] (defScope s_length_end) := ⟨rfl, rfl, rfl, by decide +kernel, rfl, by decide +kernel, by decide +kernel⟩
abbrev s_is_sign : Stmt := topS 8
theorem sc_is_sign : FnScope ["text", "at"] ["text", "at"] (defScope s_is_sign) := ⟨rfl, rfl, rfl, by decide +kernel, rfl, by decide +kernel, by decide +kernel⟩
abbrev s_read_strip : Stmt := topS 9
theorem sc_read_strip : FnScope ["text", "end", "lengths", "signs", "begin"] ["text"] (defScope s_read_strip) := ⟨rfl, rfl, rfl, by decide +kernel, rfl, by decide +kernel, by decide +kernel⟩
abbrev s_read_band : Stmt := topS 10
theorem sc_read_band : FnScope ["text", "lengths", "signs", "at", "end"] ["text"] (defScope s_read_band) := ⟨rfl, rfl, rfl, by decide +kernel, rfl, by decide +kernel, by decide +kernel⟩
abbrev s__law_long : Stmt := topS 16
theorem sc__law_long : FnScope ["draws", "cell", "style"] ["draws", "cell"] (defScope s__law_long) := ⟨rfl, rfl, rfl, by decide +kernel, rfl, by decide +kernel, by decide +kernel⟩
abbrev s__law_written : Stmt := topS 17
theorem sc__law_written : FnScope ["lengths", "signs", "found", "part"] ["lengths", "signs"] (defScope s__law_written) := ⟨rfl, rfl, rfl, by decide +kernel, rfl, by decide +kernel, by decide +kernel⟩
abbrev s__law_pair : Stmt := topS 18
theorem sc__law_pair : FnScope ["draws", "cell", "many", "more", "pool", "kinds", "lengths", "signs", "part", "draw", "k", "length"] ["draws", "cell", "many", "more"] (defScope s__law_pair) := ⟨rfl, rfl, rfl, by decide +kernel, rfl, by decide +kernel, by decide +kernel⟩
abbrev s__law_parts : Stmt := topS 19
theorem sc__law_parts : FnScope ["draws", "style"] ["draws"] (defScope s__law_parts) := ⟨rfl, rfl, rfl, by decide +kernel, rfl, by decide +kernel, by decide +kernel⟩
abbrev s_law : Stmt := topS 20
theorem sc_law : FnScope ["script", "draws", "cell", "small", "ring", "many", "strip", "band", "asked", "text"] ["script"] (defScope s_law) := ⟨rfl, rfl, rfl, by decide +kernel, rfl, by decide +kernel, by decide +kernel⟩
section
variable {P : Program} {w : World} {K : PySem.W.Frag} {mg : Str → Option Value} {base : Heap}
/-! ### texts of strips -/
def GoodLs (ls : List Nat) : Prop := ∀ l ∈ ls, 1 ≤ l ∧ l < 10 ^ 60
def GoodCs (cs : List Nat) : Prop := ∀ c ∈ cs, c = 77 ∨ c = 86 ∨ c = 70
def pcW (ls cs : List Nat) (p : Nat) : List Nat := TL.numL (ls.getD p 0) ++ (cs.drop p).take 1
def wrW (ls cs : List Nat) (k : Nat) : List Nat := ((List.range k).map (pcW ls cs)).flatten
abbrev natsD (ls : List Nat) : List D := ls.map fun n : Nat => PyData.int (n : Int)
theorem num_le {ls : List Nat} (h : GoodLs ls) {p : Nat} (hp : p < ls.length) : (TL.numL (ls.getD p 0)).length ≤ 60 := TL.numL_len (by decide) (h _ (getD_inN hp)).2
theorem pc_le {ls cs : List Nat} (h : GoodLs ls) {p : Nat} (hp : p < ls.length) : (pcW ls cs p).length ≤ 61 := by
  have := num_le h hp
  unfold pcW
  rw [List.length_append, List.length_take]
  omega
theorem wr_succ (ls cs : List Nat) (k : Nat) : wrW ls cs (k + 1) = wrW ls cs k ++ pcW ls cs k := by
  unfold wrW
  rw [List.range_succ, List.map_append, List.flatten_append]
  simp
theorem wr_le {ls cs : List Nat} (h : GoodLs ls) : ∀ {k : Nat}, k ≤ ls.length → (wrW ls cs k).length ≤ 61 * k
  | 0, _ => by simp [wrW]
  | k + 1, hk => by
    rw [wr_succ, List.length_append]
    have h1 := wr_le (cs := cs) h (k := k) (by omega)
    have h2 := pc_le (cs := cs) h (p := k) (by omega)
    omega
def sp_written : Sp3 := fun ars Q _ => ∃ (ls cs : List Nat), GoodLs ls ∧ ls.length ≤ 1000 ∧ cs.length ≤ 1000 ∧ ars = [.d (.tuple (natsD ls)), .d (.str (S cs))] ∧ Q (.d (.str (S (wrW ls cs ls.length)))) (.lst [])
def sp_wstrip : Sp3 := fun ars Q _ => ∃ (ls cs : List Nat), GoodLs ls ∧ ls.length ≤ 1000 ∧ cs.length ≤ 1000 ∧ ars = [.d (.tuple [.tuple (natsD ls), .str (S cs)])] ∧ Q (.d (.str (S (wrW ls cs ls.length)))) (.lst [])
def sp_wband : Sp3 := fun ars Q _ => ∃ (ls cs : List Nat), GoodLs ls ∧ ls.length ≤ 1000 ∧ cs.length ≤ 1000 ∧ ars = [.d (.tuple [.tuple (natsD ls), .str (S cs)])] ∧ Q (.d (.str (S (40 :: wrW ls cs ls.length ++ [41])))) (.lst [])
theorem cdNum {ls : List Nat} (h : GoodLs ls) {p : Nat} (hp : p < ls.length) : cdStr [.int ((ls.getD p 0 : Nat) : Int)] :=
  cdStrN (k := 200) (Nat.lt_trans (h _ (getD_inN hp)).2 (by decide)) (by decide)
theorem ok_written {f : Addr} {fd : FuncData} (F : Fun K "_law_written" "_law_written" s__law_written f fd) (hm : mg "_law_written" = some (.ref f)) (hb : Binds K fd ["lengths", "signs"] []) (m_len : mg "len" = none) (m_str : mg "str" = none) (m_range : mg "range" = none) :
    Fn3 P w K mg base 1 "_law_written" 2 none sp_written := by
  refine ok3 F sc__law_written rfl (by decide) hm hb fun cdv A outer s H hr => ⟨_, (b3cons (s3set (i := 2) sc__law_written.nd rfl (.inl rfl) p3str)
      (b3cons (s3for PassesOwn.never (by rfl) (i3rng1 (by rfl) m_range (a3cons (p3callB c_len (by rfl) m_len (by decide +kernel) (a3cons (pv3 0) a3nil)) a3nil)) (g3name (i := 3) sc__law_written.nd rfl (.inl rfl)) (b3one (s3aug (i := 2) sc__law_written.nd rfl (.inl rfl) (p3op o_add (p3callTy c_str (by rfl) m_str (by decide +kernel) (a3cons (p3ix (pv3 0) (pv3 3) (fun _ _ => rfl)) a3nil)) (p3sl (pv3 1) (o3some (pv3 3)) (o3some (p3op o_add (pv3 3) p3int)))) io_add)))
      (b3one (s3ret (pv3 2))))), fun ars Q3 E3 hl h => ?_⟩
  obtain ⟨ls, cs, hls, hll, hcl, rfl, q⟩ := h
  walk_at "xs"
  have hrl : (natsD ls).length = ls.length := List.length_map _
  refine ⟨⟨by omega, by omega⟩, ?_⟩
  refine for_rng0 (fun i ρ => ∃ s, ρ = [.d (.tuple (natsD ls)), .d (.str (S cs)), .d (.str (S (wrW ls cs i))), s]) ⟨_, rfl⟩ ?_ ?_
  · rintro i ρ P hi ⟨s, rfl⟩ hP
    have hi' : i < ls.length := by omega
    walk_at "xs"
    refine ⟨_, ix_tup_nats hi', trivial, ?_⟩
    walk_at "ts"
    refine ⟨cdNum hls hi', ?_⟩
    walk_at "ts"
    refine ⟨cdSlS (by omega), ?_⟩
    walk_at "ts"
    have h1 := pc_le (cs := cs) hls hi'
    have h2 := wr_le (cs := cs) hls (k := i) (by omega)
    refine ⟨cdAddS (by rw [← List.length_append]; exact Nat.le_trans h1 (by decide)), ?_⟩
    walk_at "ts"
    refine ⟨cdIAddS (by show _ + (pcW ls cs i).length ≤ _; omega), ?_⟩
    walk_at "ts"
    exact hP _ ⟨_, by rw [wr_succ]; rfl⟩
  · rintro ρ ⟨s, rfl⟩
    walk_at "xs"
    have e : ((natsD ls).length : Int).toNat = ls.length := by omega
    rw [e]; exact q
theorem ok_wstrip {f : Addr} {fd : FuncData} (F : Fun K "write_strip" "write_strip" s_write_strip f fd) (hm : mg "write_strip" = some (.ref f)) (hb : Binds K fd ["strip"] []) (m_len : mg "len" = none) (m_str : mg "str" = none) (m_range : mg "range" = none) :
    Fn3 P w K mg base 1 "write_strip" 1 none sp_wstrip := by
  refine ok3 F sc_write_strip rfl (by decide) hm hb fun cdv A outer s H hr => ⟨_, (b3cons (s3asg (pv3 0) (g3tup (by rfl) (by rfl) (gs3cons (g3name (i := 1) sc_write_strip.nd rfl (.inr rfl)) (gs3cons (g3name (i := 2) sc_write_strip.nd rfl (.inr rfl)) gs3nil))))
      (b3one (s3ret (p3m1 PySem.F.slot_str_join PySem.F.type_str_join m_join p3str (p3lc (own := [("part", 3)]) (by rfl) sc_write_strip.nd (i3rng1 (by rfl) m_range (a3cons (p3callB c_len (by rfl) m_len (by decide +kernel) (a3cons (pv3 1) a3nil)) a3nil)) (blkOk_by (own := [("part", 3)]) (N := ["strip", "lengths", "signs", "part"]) (sc := defScope s_write_strip) (by decide +kernel)) (by decide) (fun _ _ _ _ _ => (g3name (i := 3) sc_write_strip.nd rfl (.inl rfl))) (fun _ _ _ _ _ => ts3nil) (fun _ _ _ _ _ => (p3op o_add (p3callTy c_str (by rfl) m_str (by decide +kernel) (a3cons (p3ix (pv3 1) (pv3 3) (fun _ _ => rfl)) a3nil)) (p3sl (pv3 2) (o3some (pv3 3)) (o3some (p3op o_add (pv3 3) p3int)))))))))), fun ars Q3 E3 hl h => ?_⟩
  obtain ⟨ls, cs, hls, hll, hcl, rfl, q⟩ := h
  walk_at "xs"
  have hrl : (natsD ls).length = ls.length := List.length_map _
  refine ⟨⟨by omega, by omega⟩, ?_⟩
  refine lc_rng0 (f := fun i => .str (S (pcW ls cs i))) (by rw [show ((natsD ls).length : Int).toNat = ls.length by omega]; exact le_line (by omega)) (fun i acc P hi hacc p => ?_) ?_
  · have hi' : i < ls.length := by omega
    have h1 := pc_le (cs := cs) hls hi'
    walk_at "ts"
    refine ⟨_, ix_tup_nats hi', trivial, ?_⟩
    walk_at "ts"
    refine ⟨cdNum hls hi', ?_⟩
    walk_at "ts"
    refine ⟨cdSlS (by omega), ?_⟩
    walk_at "ts"
    refine ⟨cdAddS (by rw [← List.length_append]; exact Nat.le_trans h1 (by decide)), ?_⟩
    walk_at "ts"
    exact ⟨hacc, p⟩
  · walk_at "xs"
    have e : ((natsD ls).length : Int).toNat = ls.length := by omega
    have e2 : (List.range ls.length).map (fun i => PyData.str (S (pcW ls cs i))) = ((List.range ls.length).map (pcW ls cs)).map fun p => PyData.str (S p) := by rw [List.map_map]; rfl
    rw [e, e2]
    refine ⟨_, joinE, cdJoinE ?_, ?_⟩
    · have := wr_le (cs := cs) hls (k := ls.length) (by omega)
      exact Nat.le_trans this (by omega)
    walk_at "xs"
    exact q
theorem ok_wband {f : Addr} {fd : FuncData} (F : Fun K "write_band" "write_band" s_write_band f fd) (hm : mg "write_band" = some (.ref f)) (hb : Binds K fd ["band"] []) (c_write_strip : Fn3 P w K mg base 1 "write_strip" 1 none sp_wstrip) :
    Fn3 P w K mg base 2 "write_band" 1 none sp_wband := by
  refine ok3 F sc_write_band rfl (by decide) hm hb fun cdv A outer s H hr => ⟨_, (b3one (s3ret (p3op o_add (p3op o_add p3str (p3call c_write_strip hr (by omega) (by rfl) (a3cons (pv3 0) a3nil))) p3str))), fun ars Q3 E3 hl h => ?_⟩
  obtain ⟨ls, cs, hls, hll, hcl, rfl, q⟩ := h
  have h2 := wr_le (cs := cs) hls (k := ls.length) (by omega)
  walk_at "xs"
  refine ⟨ls, cs, hls, hll, hcl, rfl, ?_⟩
  walk_at "ts"
  refine ⟨cdAddS (a := [40]) (b := wrW ls cs ls.length) (by show 1 + _ ≤ _; omega), ?_⟩
  walk_at "ts"
  refine ⟨cdAddS (a := [40] ++ wrW ls cs ls.length) (b := [41]) (by rw [List.length_append]; show 1 + _ + 1 ≤ _; omega), ?_⟩
  walk_at "ts"
  exact q
/-! ### draws of strips -/
def sp_long : Sp3 := fun ars Q _ => ∃ (ds : List Int) (c : Int), ars = [.bo (.lst (ds.map .int)), .d (.int c)] ∧ ∀ (r : Nat) (es : List Int), 1 ≤ r → r < 10 ^ 60 → Q (.d (.int (r : Int))) (.lst (es.map .int))
theorem ok_long {f : Addr} {fd : FuncData} (F : Fun K "_law_long" "_law_long" s__law_long f fd) (hm : mg "_law_long" = some (.ref f)) (hb : Binds K fd ["draws", "cell"] []) (m_int : mg "int" = none) (m_abs : mg "abs" = none) (c__law_take : Fn3 P w K mg base 1 "_law_take" 2 (some 0) sp_take) :
    Fn3 P w K mg base 2 "_law_long" 2 (some 0) sp_long := by
  refine ok3 F sc__law_long rfl (by decide) hm hb fun cdv A outer s H hr => ⟨_, (b3cons (s3set (i := 2) sc__law_long.nd rfl (.inl rfl) (p3call c__law_take hr (by omega) (by rfl) (a3cons (pv3 0) (a3cons p3int a3nil))))
      (b3cons (s3if (t3cmp (o_eq hr.units) (pv3 2) p3int (nomark _)) (b3one (s3ret (p3op o_add p3int (p3op o_mod (p3callTy c_int (by rfl) m_int (by decide +kernel) (a3cons (p3callB c_abs (by rfl) m_abs (by decide +kernel) (a3cons (pv3 1) a3nil)) a3nil)) (p3op o_sub (p3op o_pow p3int p3int) p3int))))) b3nil)
      (b3cons (s3if (t3cmp (o_eq hr.units) (pv3 2) p3int (nomark _)) (b3one (s3ret (p3op o_sub (p3op o_sub (p3op o_pow p3int p3int) p3int) (p3call c__law_take hr (by omega) (by rfl) (a3cons (pv3 0) (a3cons p3int a3nil)))))) b3nil)
      (b3cons (s3if (t3cmp (o_eq hr.units) (pv3 2) p3int (nomark _)) (b3one (s3ret (p3op o_add (p3op o_sub (p3op o_pow p3int p3int) p3int) (p3call c__law_take hr (by omega) (by rfl) (a3cons (pv3 0) (a3cons p3int a3nil)))))) b3nil)
      (b3cons (s3if (t3cmp (o_eq hr.units) (pv3 2) p3int (nomark _)) (b3one (s3ret (p3ix (p3lst (a3cons p3int (a3cons p3int (a3cons p3int (a3cons p3int (a3cons p3int (a3cons p3int (a3cons p3int a3nil)))))))) (p3call c__law_take hr (by omega) (by rfl) (a3cons (pv3 0) (a3cons p3int a3nil))) (fun _ _ => rfl)))) b3nil)
      (b3one (s3ret (p3op o_add p3int (p3call c__law_take hr (by omega) (by rfl) (a3cons (pv3 0) (a3cons (p3ix (p3lst (a3cons p3int (a3cons p3int (a3cons p3int a3nil)))) (p3call c__law_take hr (by omega) (by rfl) (a3cons (pv3 0) (a3cons p3int a3nil))) (fun _ _ => rfl)) a3nil))))))))))), fun ars Q3 E3 hl h => ?_⟩
  obtain ⟨ds, c, rfl, q⟩ := h
  have q' : ∀ (r : Int) (es : List Int), 1 ≤ r → r < 10 ^ 60 → Q3 (.d (.int r)) (.lst (es.map .int)) := fun r es h0 h1 => by
    obtain ⟨n, rfl⟩ := Int.eq_ofNat_of_zero_le (show 0 ≤ r by omega)
    exact q n es (by omega) (by omega)
  walk_at "xs"
  refine ⟨by decide, fun r es h0 h1 => ?_⟩
  have e60 : (10 : Int) ^ Int.toNat 60 = 10 ^ 60 := rfl
  have e59 : (10 : Int) ^ Int.toNat 59 = 10 ^ 59 := rfl
  walk_at "xs"
  refine ite2 (fun _ => ?_) (fun _ => ?_)
  · walk_at "xs"
    have g0 := Int.emod_nonneg (if c < 0 then -c else c) (show (10 : Int) ^ 60 - 1 ≠ 0 by omega)
    have g1 := Int.emod_lt_of_pos (if c < 0 then -c else c) (show 0 < (10 : Int) ^ 60 - 1 by omega)
    rw [← e60] at g0 g1
    exact q' _ es (by omega) (by omega)
  walk_at "xs"
  refine ite2 (fun _ => ?_) (fun _ => ?_)
  · walk_at "xs"
    refine ⟨by decide, fun r1 es1 g0 g1 => ?_⟩
    walk_at "xs"
    exact q' _ es1 (by omega) (by omega)
  walk_at "xs"
  refine ite2 (fun _ => ?_) (fun _ => ?_)
  · walk_at "xs"
    refine ⟨by decide, fun r1 es1 g0 g1 => ?_⟩
    walk_at "xs"
    exact q' _ es1 (by omega) (by omega)
  walk_at "xs"
  refine ite2 (fun _ => ?_) (fun _ => ?_)
  · walk_at "xs"
    refine ⟨by decide, fun r1 es1 g0 g1 => ?_⟩
    have hi : r1.toNat < [9, 10, 99, 100, 1000, 90, 109].length := by show r1.toNat < 7; omega
    have hr := (show ∀ x ∈ ([9, 10, 99, 100, 1000, 90, 109] : List Int), 1 ≤ x ∧ x ≤ 1000 by decide) _ (getD_in hi)
    walk_at "xs"
    refine ⟨_, ix_list_ints (ns := [9, 10, 99, 100, 1000, 90, 109]) g0 g1, trivial, ?_⟩
    walk_at "xs"
    exact q' _ es1 hr.1 (by omega)
  walk_at "xs"
  refine ⟨by decide, fun r1 es1 g0 g1 => ?_⟩
  have hi : r1.toNat < [9, 40, 999].length := by show r1.toNat < 3; omega
  have hr := (show ∀ x ∈ ([9, 40, 999] : List Int), 1 ≤ x ∧ x ≤ 1000 by decide) _ (getD_in hi)
  walk_at "xs"
  refine ⟨_, ix_list_ints (ns := [9, 40, 999]) g0 g1, trivial, ?_⟩
  walk_at "xs"
  refine ⟨by omega, fun r2 es2 k0 k1 => ?_⟩
  walk_at "xs"
  exact q' _ es2 (by omega) (by omega)
def sp_parts : Sp3 := fun ars Q _ => ∃ (ds : List Int), ars = [.bo (.lst (ds.map .int))] ∧ ∀ (r : Nat) (es : List Int), 1 ≤ r → r ≤ 400 → Q (.d (.int (r : Int))) (.lst (es.map .int))
theorem ok_parts {f : Addr} {fd : FuncData} (F : Fun K "_law_parts" "_law_parts" s__law_parts f fd) (hm : mg "_law_parts" = some (.ref f)) (hb : Binds K fd ["draws"] []) (c__law_take : Fn3 P w K mg base 1 "_law_take" 2 (some 0) sp_take) :
    Fn3 P w K mg base 2 "_law_parts" 1 (some 0) sp_parts := by
  refine ok3 F sc__law_parts rfl (by decide) hm hb fun cdv A outer s H hr => ⟨_, (b3cons (s3set (i := 1) sc__law_parts.nd rfl (.inl rfl) (p3call c__law_take hr (by omega) (by rfl) (a3cons (pv3 0) (a3cons p3int a3nil))))
      (b3cons (s3if (t3cmp (o_eq hr.units) (pv3 1) p3int (nomark _)) (b3one (s3ret (p3op o_add p3int (p3call c__law_take hr (by omega) (by rfl) (a3cons (pv3 0) (a3cons p3int a3nil)))))) b3nil)
      (b3cons (s3if (t3cmp o_lt (pv3 1) p3int (nomark _)) (b3one (s3ret (p3op o_add p3int (p3call c__law_take hr (by omega) (by rfl) (a3cons (pv3 0) (a3cons p3int a3nil)))))) b3nil)
      (b3one (s3ret (p3op o_add p3int (p3call c__law_take hr (by omega) (by rfl) (a3cons (pv3 0) (a3cons p3int a3nil))))))))), fun ars Q3 E3 hl h => ?_⟩
  obtain ⟨ds, rfl, q⟩ := h
  have q' : ∀ (r : Int) (es : List Int), 1 ≤ r → r ≤ 400 → Q3 (.d (.int r)) (.lst (es.map .int)) := fun r es h0 h1 => by
    obtain ⟨n, rfl⟩ := Int.eq_ofNat_of_zero_le (show 0 ≤ r by omega)
    exact q n es (by omega) (by omega)
  walk_at "xs"
  refine ⟨by decide, fun r es h0 h1 => ?_⟩
  walk_at "xs"
  refine ite2 (fun _ => ?_) (fun _ => ?_)
  · walk_at "xs"
    refine ⟨by decide, fun r1 es1 g0 g1 => ?_⟩
    walk_at "xs"
    exact q' _ es1 (by omega) (by omega)
  walk_at "xs"
  refine ite2 (fun _ => ?_) (fun _ => ?_)
  · walk_at "xs"
    refine ⟨by decide, fun r1 es1 g0 g1 => ?_⟩
    walk_at "xs"
    exact q' _ es1 (by omega) (by omega)
  walk_at "xs"
  refine ⟨by decide, fun r1 es1 g0 g1 => ?_⟩
  walk_at "xs"
  exact q' _ es1 (by omega) (by omega)
theorem mvf {i : Int} (h0 : 0 ≤ i) (h1 : i < 3) : ∃ ch, (ch = 77 ∨ ch = 86 ∨ ch = 70) ∧ fnIx (.str "MVF") (.int i) = some (.str (S [ch])) := by
  rcases (show i = 0 ∨ i = 1 ∨ i = 2 by omega) with rfl | rfl | rfl
  · exact ⟨77, .inl rfl, rfl⟩
  · exact ⟨86, .inr (.inl rfl), rfl⟩
  · exact ⟨70, .inr (.inr rfl), rfl⟩
def sp_pair : Sp3 := fun ars Q _ => ∃ (ds : List Int) (c : Int) (m more : Nat), 1 ≤ m ∧ m ≤ 500 ∧ more ≤ 1 ∧ ars = [.bo (.lst (ds.map .int)), .d (.int c), .d (.int m), .d (.int more)] ∧
  ∀ (ls cs : List Nat) (es : List Int), GoodLs ls → GoodCs cs → ls.length = m → cs.length + 1 = m + more → Q (.d (.tuple [.tuple (natsD ls), .str (S cs)])) (.lst (es.map .int))
theorem ok_pair {f : Addr} {fd : FuncData} (F : Fun K "_law_pair" "_law_pair" s__law_pair f fd) (hm : mg "_law_pair" = some (.ref f)) (hb : Binds K fd ["draws", "cell", "many", "more"] []) (m_int : mg "int" = none) (m_tuple : mg "tuple" = none) (m_range : mg "range" = none) (c__law_take : Fn3 P w K mg base 1 "_law_take" 2 (some 0) sp_take) (c__law_long : Fn3 P w K mg base 2 "_law_long" 2 (some 0) sp_long) :
    Fn3 P w K mg base 3 "_law_pair" 4 (some 0) sp_pair := by
  refine ok3 F sc__law_pair rfl (by decide) hm hb fun cdv A outer s H hr => ⟨_, (b3cons (s3setLc (i := 4) (own := [("k", 10)]) (by rfl) sc__law_pair.nd rfl rfl (sw_true rfl rfl rfl (by decide +kernel)) (i3rng1 (by rfl) m_range (a3cons p3int a3nil)) (blkOk_by (own := [("k", 10)]) (N := ["draws", "cell", "many", "more", "pool", "kinds", "lengths", "signs", "part", "draw", "k", "length"]) (sc := defScope s__law_pair) (by decide +kernel)) (by decide) (fun _ _ _ _ _ => (g3name (i := 10) sc__law_pair.nd rfl (.inl rfl))) (fun _ _ _ _ _ => ts3nil) (fun _ _ _ _ _ => (p3call c__law_long hr (by omega) (by rfl) (a3cons (pv3 0) (a3cons (pv3 1) a3nil)))))
      (b3cons (s3set (i := 5) sc__law_pair.nd rfl (.inl rfl) p3int)
      (b3cut (s3if (t3cmp o_gt (pv3 2) p3int (nomark _)) (b3cons (s3setLc (i := 4) (own := [("length", 11)]) (by rfl) sc__law_pair.nd rfl rfl (sw_true rfl rfl rfl (by decide +kernel)) (i3seq (pv3 4)) (blkOk_by (own := [("length", 11)]) (N := ["draws", "cell", "many", "more", "pool", "kinds", "lengths", "signs", "part", "draw", "k", "length"]) (sc := defScope s__law_pair) (by decide +kernel)) (by decide) (fun _ _ _ _ _ => (g3name (i := 11) sc__law_pair.nd rfl (.inl rfl))) (fun _ _ _ _ _ => ts3nil) (fun _ _ _ _ _ => (p3op o_add (p3op o_mod (p3callTy c_int (by rfl) m_int (by decide +kernel) (a3cons (pv3 11) a3nil)) (p3op o_pow p3int p3int)) p3int)))
      (b3one (s3set (i := 5) sc__law_pair.nd rfl (.inl rfl) p3int))) b3nil)
      (b3cons (s3set (i := 6) sc__law_pair.nd rfl (.inl rfl) (p3lst a3nil))
      (b3cons (s3set (i := 7) sc__law_pair.nd rfl (.inl rfl) p3str)
      (b3cons (s3for PassesOwn.never (by rfl) (i3rng1 (by rfl) m_range (a3cons (pv3 2) a3nil)) (g3name (i := 8) sc__law_pair.nd rfl (.inl rfl)) (b3cons (s3set (i := 9) sc__law_pair.nd rfl (.inl rfl) (p3call c__law_take hr (by omega) (by rfl) (a3cons (pv3 0) (a3cons p3int a3nil))))
      (b3cons (s3expr (p3meth PySem.F.plainAttrs_list PySem.F.slot_list_append PySem.F.type_list_append m_append (pv3 6) (a3cons (p3ix (pv3 4) (p3op o_mod (p3callTy c_int (by rfl) m_int (by decide +kernel) (a3cons (pv3 9) a3nil)) p3int) (fun _ _ => rfl)) a3nil)))
      (b3one (s3if (t3cmp o_gt (p3op o_add (pv3 8) (pv3 3)) p3int (nomark _)) (b3one (s3aug (i := 7) sc__law_pair.nd rfl (.inl rfl) (p3ix p3str (p3op o_mod (p3callTy c_int (by rfl) m_int (by decide +kernel) (a3cons (p3op o_div (pv3 9) p3int) a3nil)) (pv3 5)) (fun _ _ => rfl)) io_add)) b3nil)))))
      (b3one (s3ret (p3tup (a3cons (p3callTy c_tuple (by rfl) m_tuple (by decide +kernel) (a3cons (pv3 6) a3nil)) (a3cons (pv3 7) a3nil))))))))))), fun ars Q3 E3 hl h => ?_⟩
  obtain ⟨ds, c, m, more, hm1, hm2, hmo, rfl, q⟩ := h
  /- 0:draws 1:cell 2:many 3:more 4:pool 5:kinds 6:lengths 7:signs 8:part 9:draw 10:k 11:length -/
  walk_at "xs"
  walk_at "r"
  refine lc_rngI (fun i acc ρ => ∃ (ls : List Nat) (es : List Int), GoodLs ls ∧ ls.length = i ∧ acc = natsD ls ∧ ρ = [.ow (some 0) (.lst (es.map .int)), .d (.int c), .d (.int m), .d (.int more), .no, .no, .no, .no, .no, .no, .no, .no]) ⟨[], ds, nofun, rfl, rfl, rfl⟩ ?_ ?_
  · rintro i acc ρ P hi ⟨ls, es, hls, hll, rfl, rfl⟩ hP
    have hi' : i < 5 := hi
    walk_at "xs"
    rintro r es' h0 h1
    walk_at "xs"
    refine ⟨lt_line (by rw [List.length_map]; omega), ?_⟩
    refine hP _ _ ⟨ls ++ [r], es', ?_, by simp [hll], ?_, rfl⟩
    · intro x hx
      rcases List.mem_append.mp hx with hx | hx
      · exact hls x hx
      · cases List.mem_singleton.mp hx; exact ⟨h0, h1⟩
    · unfold natsD; rw [List.map_append]; rfl
  · rintro acc ρ ⟨pool, es, hpo, hpl, rfl, rfl⟩
    walk_at "xs"
    refine .mk (fun ρ => ∃ (pool : List Nat) (k : Nat), GoodLs pool ∧ pool.length = 5 ∧ 1 ≤ k ∧ k ≤ 3 ∧ ρ = [.ow (some 0) (.lst (es.map .int)), .d (.int c), .d (.int m), .d (.int more), .ow none (.lst (natsD pool)), .d (.int k), .no, .no, .no, .no, .no, .no]) ?_ ?_
    · walk_at "xs"
      refine ite2 (fun _ => ?_) (fun _ => ?_)
      · walk_at "xs"
        refine lc_map (g := fun n : Nat => PyData.int (n : Int)) (f := fun n => .int ((n % 10 ^ 20 + 1 : Nat) : Int)) (le_line (by omega)) (fun k a acc P ha hacc p => ?_) ?_
        · walk_at "xs"
          exact ⟨hacc, p⟩
        walk_at "xs"
        refine ⟨pool.map fun n => n % 10 ^ 20 + 1, 2, ?_, by rw [List.length_map]; exact hpl, by decide, by decide, ?_⟩
        · intro x hx
          obtain ⟨n, _, rfl⟩ := List.mem_map.mp hx
          have := Nat.mod_lt n (show 0 < 10 ^ 20 by decide)
          omega
        · unfold natsD; rw [List.map_map]; rfl
      · walk_at "xs"
        exact ⟨pool, 3, hpo, hpl, by decide, by decide, rfl⟩
    rintro ρ ⟨pool, kd, hpo, hpl, hk1, hk3, rfl⟩
    walk_at "xs"
    walk_at "r"
    refine for_rng0 (fun i ρ => ∃ (ls cs : List Nat) (es : List Int) (s8 s9 : Sl), GoodLs ls ∧ GoodCs cs ∧ ls.length = i ∧ cs.length = i + more - 1 ∧ ρ = [.ow (some 0) (.lst (es.map .int)), .d (.int c), .d (.int m), .d (.int more), .ow none (.lst (natsD pool)), .d (.int kd), .ow none (.lst (natsD ls)), .d (.str (S cs)), s8, s9, .no, .no]) ⟨[], [], es, _, _, nofun, nofun, rfl, by simp; omega, rfl⟩ ?_ ?_
    · rintro i ρ P hi ⟨ls, cs, es, s8, s9, hls, hcs, hll, hcl, rfl⟩ hP
      have hi' : i < m := by simpa using hi
      walk_at "xs"
      refine ⟨by decide, fun r es1 h0 h1 => ?_⟩
      walk_at "xs"
      have g0 := Int.emod_nonneg r (show (5 : Int) ≠ 0 by decide)
      have g1 := Int.emod_lt_of_pos r (show (0 : Int) < 5 by decide)
      obtain ⟨g, hg⟩ := Int.eq_ofNat_of_zero_le g0
      have hgl : g < pool.length := by omega
      have hgp := hpo _ (getD_inN hgl)
      rw [hg]
      refine ⟨_, ix_list_nats hgl, trivial, ?_⟩
      walk_at "xs"
      refine ⟨ltOk (by simp; omega), ?_⟩
      walk_at "xs"
      have hls2 : GoodLs (ls ++ [pool.getD g 0]) := by
        intro x hx
        rcases List.mem_append.mp hx with hx | hx
        · exact hls x hx
        · cases List.mem_singleton.mp hx; exact hgp
      refine ite2 (fun e => ?_) (fun e => ?_)
      · walk_at "xs"
        have e' : 0 < (i : Int) + (more : Int) := of_decide_eq_true e
        refine ⟨modC (by omega), ?_⟩
        walk_at "xs"
        obtain ⟨ch, hch, hix⟩ := mvf (Int.emod_nonneg (r / 5) (show (kd : Int) ≠ 0 by omega)) (Int.lt_of_lt_of_le (Int.emod_lt_of_pos (r / 5) (show (0 : Int) < kd by omega)) (show (kd : Int) ≤ 3 by omega))
        refine ⟨_, hix, show 3 ≤ sizeLine by decide, ?_⟩
        walk_at "ts"
        refine ⟨cdIAddS (by show _ + 1 ≤ _; omega), ?_⟩
        have hcs2 : GoodCs (cs ++ [ch]) := by
          intro x hx
          rcases List.mem_append.mp hx with hx | hx
          · exact hcs x hx
          · cases List.mem_singleton.mp hx; exact hch
        walk_at "ts"
        exact hP _ ⟨ls ++ [pool.getD g 0], cs ++ [ch], es1, _, _, hls2, hcs2, by simp [hll], by rw [List.length_append, hcl]; show i + more - 1 + 1 = _; omega, by unfold natsD; rw [List.map_append]; rfl⟩
      · walk_at "xs"
        have e : i + more = 0 := by
          have e' : ¬ (0 < (i : Int) + (more : Int)) := fun z => e (decide_eq_true z)
          omega
        exact hP _ ⟨ls ++ [pool.getD g 0], cs, es1, _, _, hls2, hcs, by simp [hll], by omega, by unfold natsD; rw [List.map_append]; rfl⟩
    · rintro ρ ⟨ls, cs, es, s8, s9, hls, hcs, hll, hcl, rfl⟩
      walk_at "xs"
      exact q ls cs es hls hcs (by simpa using hll) (by simp at hcl; omega)
end
end Law

namespace Law
open PySem PySem.Spec PyProof.Rows L2 L3 SX
local macro_rules
  | `(tactic| walk_at "x") => `(tactic| first | refine ⟨_, rfl, trivial, ?_⟩ | refine ⟨_, rfl, ?_⟩ | refine ⟨_, _, rfl, trivial, ?_⟩ | refine ⟨_, _, rfl, ?_⟩ | refine ⟨_, _, _, rfl, ?_⟩ | refine ⟨_, _, _, _, _, rfl, ?_⟩ | refine ⟨lenOk rfl, ?_⟩ | refine ⟨ltOk rfl, ?_⟩ | refine ⟨rfl, ?_⟩ | refine ⟨mulR ⟨by decide, by decide⟩, ?_⟩ | refine ⟨mulL ⟨by decide, by decide⟩, ?_⟩ | refine ⟨modC (by decide), ?_⟩ | refine ⟨divC (by decide), ?_⟩ | refine ⟨powC (by decide), ?_⟩ | refine iteT ?_ | refine iteF ?_)
local macro_rules
  | `(tactic| walk_at "xs") => `(tactic| repeat (walk_at "x"))
local macro_rules
  | `(tactic| walk_at "r") => `(tactic| refine ⟨⟨by omega, by omega⟩, ?_⟩)
local macro_rules
  | `(tactic| walk_at "t") => `(tactic| first | refine ⟨_, strN, ?_⟩ | refine ⟨_, addS, ?_⟩ | refine ⟨_, iaddS, ?_⟩ | refine ⟨_, oneS rfl rfl, ?_⟩ | walk_at "x")
local macro_rules
  | `(tactic| walk_at "ts") => `(tactic| repeat (walk_at "t"))
local macro_rules
  | `(tactic| walk_at "s1") => `(tactic| refine at_st (ρ' := [_]) rfl ?_)
local macro_rules
  | `(tactic| walk_at "s2") => `(tactic| refine at_st (ρ' := [_, _]) rfl ?_)
local macro_rules
  | `(tactic| walk_at "s3") => `(tactic| refine at_st (ρ' := [_, _, _]) rfl ?_)
local macro_rules
  | `(tactic| walk_at "s4") => `(tactic| refine at_st (ρ' := [_, _, _, _]) rfl ?_)
local macro_rules
  | `(tactic| walk_at "s5") => `(tactic| refine at_st (ρ' := [_, _, _, _, _]) rfl ?_)
local macro_rules
  | `(tactic| walk_at "s6") => `(tactic| refine at_st (ρ' := [_, _, _, _, _, _]) rfl ?_)
local macro_rules
  | `(tactic| walk_at "s7") => `(tactic| refine at_st (ρ' := [_, _, _, _, _, _, _]) rfl ?_)
local macro_rules
  | `(tactic| walk_at "s8") => `(tactic| refine at_st (ρ' := [_, _, _, _, _, _, _, _]) rfl ?_)
local macro_rules
  | `(tactic| walk_at "s9") => `(tactic| refine at_st (ρ' := [_, _, _, _, _, _, _, _, _]) rfl ?_)
local macro_rules
  | `(tactic| walk_at "s10") => `(tactic| refine at_st (ρ' := [_, _, _, _, _, _, _, _, _, _]) rfl ?_)
local macro_rules
  | `(tactic| walk_at "s11") => `(tactic| refine at_st (ρ' := [_, _, _, _, _, _, _, _, _, _, _]) rfl ?_)
local macro_rules
  | `(tactic| walk_at "s12") => `(tactic| refine at_st (ρ' := [_, _, _, _, _, _, _, _, _, _, _, _]) rfl ?_)
local macro_rules
  | `(tactic| walk_at "s13") => `(tactic| refine at_st (ρ' := [_, _, _, _, _, _, _, _, _, _, _, _, _]) rfl ?_)
local macro_rules
  | `(tactic| walk_at "s14") => `(tactic| refine at_st (ρ' := [_, _, _, _, _, _, _, _, _, _, _, _, _, _]) rfl ?_)
local macro_rules
  | `(tactic| walk_at "s15") => `(tactic| refine at_st (ρ' := [_, _, _, _, _, _, _, _, _, _, _, _, _, _, _]) rfl ?_)
local macro_rules
  | `(tactic| walk_at "s16") => `(tactic| refine at_st (ρ' := [_, _, _, _, _, _, _, _, _, _, _, _, _, _, _, _]) rfl ?_)
def StripOk (ls cs : List Nat) : Prop := GoodLs ls ∧ GoodCs cs ∧ 1 ≤ ls.length ∧ ls.length ≤ 1000 ∧ cs.length + 1 = ls.length
def BandOk (ls cs : List Nat) : Prop := GoodLs ls ∧ GoodCs cs ∧ 2 ≤ ls.length ∧ ls.length ≤ 1000 ∧ cs.length = ls.length
abbrev pairD (ls cs : List Nat) : D := .tuple [.tuple (natsD ls), .str (S cs)]
def sp_law : Sp3 := fun ars Q _ => ∃ ns : List Int, ns.length ≤ 63 ∧ ars = [.d (scrD ns)] ∧ Q (.d (.bool true)) (.lst [])
section
variable {P : Program} {w : World} {K : PySem.W.Frag} {mg : Str → Option Value} {base : Heap}
/-! ### readers -/
def Digs (ds : List Nat) : Prop := ∀ c ∈ ds, c ∈ [48, 49, 50, 51, 52, 53, 54, 55, 56, 57]
theorem digs_num (n : Nat) : Digs (TL.numL n) := fun c hc => by
  have := TL.numL_digits n c hc
  simp; omega
def sp_le : Sp3 := fun ars Q _ => ∃ (p ds q : List Nat) (d : Nat), Digs (d :: ds) ∧ d ≠ 48 ∧ ds.length < 60 ∧ (∀ c, q.head? = some c → c ∉ [48, 49, 50, 51, 52, 53, 54, 55, 56, 57]) ∧ (p ++ (d :: ds ++ q)).length ≤ 1000000 ∧
  ars = [.d (.str (S (p ++ (d :: ds ++ q)))), .d (.int (p.length : Int))] ∧ Q (.d (.int ((p.length + (ds.length + 1) : Nat) : Int))) (.lst [])
theorem ok_le {f : Addr} {fd : FuncData} (F : Fun K "length_end" "length_end" s_length_end f fd) (hm : mg "length_end" = some (.ref f)) (hb : Binds K fd ["text", "at"] []) (m_len : mg "len" = none) (m_DIGITS : ∃ u, mg "DIGITS" = some u ∧ RelV (.str "0123456789") u) :
    Fn3 P w K mg base 1 "length_end" 2 none sp_le := by
  refine ok3 F sc_length_end rfl (by decide) hm hb fun cdv A outer s H hr => ⟨_, (b3cons (s3if (t3pw (w3or (t3cmp (o_eq hr.units) (p3sl (pv3 0) (o3some (pv3 1)) (o3some (p3op o_add (pv3 1) p3int))) p3str (nomark _)) (w3or (t3cmp (o_notIn (in_room hr)) (p3ix (pv3 0) (pv3 1) (fun _ _ => rfl)) (p3globE (by rfl) m_DIGITS (fun _ _ => .str _)) (by rfl)) (w3or1 (t3cmp (o_eq hr.units) (p3ix (pv3 0) (pv3 1) (fun _ _ => rfl)) p3str (nomark _)))))) (b3one s3never) b3nil)
      (b3cons (s3set (i := 2) sc_length_end.nd rfl (.inl rfl) (p3op o_add (pv3 1) p3int))
      (b3cons (s3while PassesOwn.never (t3pw (w3and (t3cmp o_lt (pv3 2) (p3callB c_len (by rfl) m_len (by decide +kernel) (a3cons (pv3 0) a3nil)) (nomark _)) (w3and1 (t3cmp (o_in (in_room hr)) (p3ix (pv3 0) (pv3 2) (fun _ _ => rfl)) (p3globE (by rfl) m_DIGITS (fun _ _ => .str _)) (by rfl))))) (b3cons (s3if (t3cmp (o_eq hr.units) (p3op o_sub (pv3 2) (pv3 1)) p3int (nomark _)) (b3one s3never) b3nil)
      (b3one (s3aug (i := 2) sc_length_end.nd rfl (.inl rfl) p3int io_add))))
      (b3one (s3ret (pv3 2)))))), fun ars Q3 E3 hl h => ?_⟩
  obtain ⟨p, ds, q, d, hd, hd0, hdl, hq, hlen, rfl, qq⟩ := h
  /- 0:text 1:at 2:end -/
  obtain ⟨t, ht⟩ : ∃ t, t = p ++ (d :: ds ++ q) := ⟨_, rfl⟩
  rw [← ht] at hlen ⊢
  have e1 : (t.drop p.length).take 1 = [d] := by rw [ht]; simp
  have e2 : t[(p.length : Int).toNat]? = some d := by rw [ht]; simp
  have hsz : cdSl (.str (S t)) := cdSlS (by omega)
  have hsx : ∀ i, cdIx (.str (S t)) (.int i) := fun i => cdIxS (by omega)
  have hd1 : d ∈ [48, 49, 50, 51, 52, 53, 54, 55, 56, 57] := hd d List.mem_cons_self
  walk_at "ts"
  rw [e1]
  refine ⟨hsz, ?_⟩
  walk_at "ts"
  refine ⟨_, ix_str (by omega) e2, hsx _, ?_⟩
  walk_at "xs"
  refine ifF (by rw [show ("0123456789" : Str).cps.toList = [48, 49, 50, 51, 52, 53, 54, 55, 56, 57] from rfl, decide_eq_true hd1]; decide) ?_
  walk_at "xs"
  refine ⟨_, ix_str (by omega) e2, hsx _, ?_⟩
  walk_at "xs"
  refine ifF (by show ¬ eqD (.str (S [d])) (.str (S [48])) = true; rw [eqS]; simpa using hd0) ?_
  walk_at "xs"
  refine .mk (fun m ρ => ∃ j : Nat, j + m = ds.length ∧ ρ = [.d (.str (S t)), .d (.int (p.length : Int)), .d (.int ((p.length + (j + 1) : Nat) : Int))]) ds.length ⟨0, by omega, rfl⟩ ?_
  rintro m ρ ⟨j, hj, rfl⟩
  walk_at "xs"
  refine ⟨cdLenS (by omega), ?_⟩
  walk_at "xs"
  have hlt : t.length = p.length + (ds.length + 1) + q.length := by rw [ht]; simp; omega
  have hget : ∀ k : Nat, t[((p.length + (k + 1) : Nat) : Int).toNat]? = (ds ++ q)[k]? := fun k => by
    rw [ht, Int.toNat_natCast, List.getElem?_append_right (by omega)]
    rw [show p.length + (k + 1) - p.length = k + 1 by omega]
    rfl
  refine ite2 (fun e => ?_) (fun e => ?_)
  · have e' : ((p.length + (j + 1) : Nat) : Int) < (t.length : Int) := of_decide_eq_true e
    obtain ⟨c, hc⟩ : ∃ c, (ds ++ q)[j]? = some c := ⟨_, List.getElem?_eq_getElem (by rw [List.length_append]; omega)⟩
    walk_at "xs"
    refine ⟨_, ix_str (by omega) ((hget j).trans hc), hsx _, ?_⟩
    walk_at "xs"
    refine ite2 (fun e2 => ?_) (fun e2 => ?_)
    · have e2' : c ∈ [48, 49, 50, 51, 52, 53, 54, 55, 56, 57] := of_decide_eq_true e2
      have hj' : j < ds.length := by
        by_cases h : j < ds.length
        · exact h
        · have ej : j = ds.length := by omega
          subst ej
          rw [List.getElem?_append_right (Nat.le_refl _), Nat.sub_self] at hc
          exact absurd e2' (hq c (by rw [List.head?_eq_getElem?]; exact hc))
      walk_at "xs"
      refine ifF (by simp [eqD]; omega) ?_
      walk_at "xs"
      exact ⟨m - 1, by omega, j + 1, by omega, rfl⟩
    · have hj' : j = ds.length := by
        by_cases h : j < ds.length
        · rw [List.getElem?_append_left h] at hc
          exact absurd (hd c (List.mem_cons_of_mem _ (List.mem_of_getElem? hc))) (fun z => e2 (decide_eq_true z))
        · omega
      subst hj'
      walk_at "xs"
      exact qq
  · have e' : ¬ ((p.length + (j + 1) : Nat) : Int) < (t.length : Int) := fun z => e (decide_eq_true z)
    walk_at "xs"
    have hj' : j = ds.length := by omega
    subst hj'
    exact qq
theorem num_head {n : Nat} (h : 1 ≤ n) : ∃ d ds, TL.numL n = d :: ds ∧ d ≠ 48 := by
  induction n using Nat.strongRecOn with
  | ind n ih =>
    by_cases h10 : n < 10
    · exact ⟨48 + n, [], TL.numL_lt h10, by omega⟩
    · obtain ⟨d, ds, e, hd⟩ := ih (n / 10) (by omega) (by omega)
      exact ⟨d, ds ++ [48 + n % 10], by rw [TL.numL_step (by omega), e]; rfl, hd⟩
def wrZ (ls cs : List Nat) (k n : Nat) : List Nat := ((List.range' k (n - k)).map (pcW ls cs)).flatten
theorem wrZ_end (ls cs : List Nat) (n : Nat) : wrZ ls cs n n = [] := by simp [wrZ]
theorem wrZ_step {ls cs : List Nat} {k n : Nat} (h : k < n) : wrZ ls cs k n = pcW ls cs k ++ wrZ ls cs (k + 1) n := by
  unfold wrZ
  rw [show n - k = (n - (k + 1)) + 1 by omega, List.range'_succ, List.map_cons, List.flatten_cons]
theorem wrW_cut {ls cs : List Nat} : ∀ {k n : Nat}, k ≤ n → wrW ls cs n = wrW ls cs k ++ wrZ ls cs k n
  | 0, n, _ => by
    show _ = [] ++ _
    rw [List.nil_append]
    unfold wrW wrZ
    rw [List.range_eq_range']; rfl
  | k + 1, n, h => by
    rw [wrW_cut (k := k) (by omega), wrZ_step (by omega), wr_succ, List.append_assoc]
abbrev DG : List Nat := [48, 49, 50, 51, 52, 53, 54, 55, 56, 57]
theorem good_free {c : Nat} (h : c = 77 ∨ c = 86 ∨ c = 70) : c ∉ DG := by
  rcases h with rfl | rfl | rfl <;> decide
/-- what stands behind a length -/
theorem head_free {ls cs post : List Nat} {k n : Nat} (hcs : GoodCs cs) (hk : k < n) (hc : n ≤ cs.length + 1) (hp : ∀ c, post.head? = some c → c ∉ DG) : ∀ c, ((cs.drop k).take 1 ++ wrZ ls cs (k + 1) n ++ post).head? = some c → c ∉ DG := by
  intro c h
  by_cases hl : k < cs.length
  · rw [List.drop_eq_getElem_cons hl] at h
    rw [List.take_succ_cons] at h
    have : cs[k] = c := Option.some.inj h
    exact good_free (this ▸ hcs _ (List.getElem_mem hl))
  · have e : k + 1 = n := by omega
    subst e
    rw [List.drop_eq_nil_of_le (by omega), wrZ_end] at h
    exact hp c (by simpa using h)
theorem le_call {ls cs pre post t : List Nat} {k n : Nat} {Q : Rs → Ob → Prop} {E : Exc → Prop} (hls : GoodLs ls) (hcs : GoodCs cs) (hk : k < n) (hn : ls.length = n) (hc : n ≤ cs.length + 1) (hp : ∀ c, post.head? = some c → c ∉ DG)
    (ht : t = pre ++ wrW ls cs n ++ post) (hlen : t.length ≤ 1000000) {at_ : Int} (ha : at_ = ((pre ++ wrW ls cs k).length : Int))
    (q : Q (.d (.int (((pre ++ wrW ls cs k).length + (TL.numL (ls.getD k 0)).length : Nat) : Int))) (.lst [])) : sp_le [.d (.str (S t)), .d (.int at_)] Q E := by
  obtain ⟨d, ds, e, hd⟩ := num_head (hls _ (getD_inN (ns := ls) (i := k) (by omega))).1
  have hn6 := num_le hls (p := k) (by omega)
  have hdg := digs_num (ls.getD k 0)
  rw [e] at hn6 hdg q
  have et : t = (pre ++ wrW ls cs k) ++ (d :: ds ++ ((cs.drop k).take 1 ++ wrZ ls cs (k + 1) n ++ post)) := by
    rw [ht, wrW_cut (Nat.le_of_lt hk), wrZ_step hk, ← e]
    unfold pcW
    simp only [List.append_assoc]
  exact ⟨pre ++ wrW ls cs k, ds, (cs.drop k).take 1 ++ wrZ ls cs (k + 1) n ++ post, d, hdg, hd, by rw [List.length_cons] at hn6; omega, head_free hcs hk hc hp, by rw [← et]; exact hlen, by rw [← et, ha], q⟩
theorem at_num {ls cs pre post t : List Nat} {k n : Nat} (hk : k < n) (ht : t = pre ++ wrW ls cs n ++ post) :
    t = (pre ++ wrW ls cs k ++ TL.numL (ls.getD k 0)) ++ ((cs.drop k).take 1 ++ (wrZ ls cs (k + 1) n ++ post)) := by
  rw [ht, wrW_cut (Nat.le_of_lt hk), wrZ_step hk]
  unfold pcW
  simp only [List.append_assoc]
theorem sg_at {cs : List Nat} {k : Nat} (h : k < cs.length) : (cs.drop k).take 1 = [cs.getD k 0] := by
  rw [List.drop_eq_getElem_cons h, List.take_succ_cons]
  simp [h]
theorem take_getC {cs : List Nat} {k : Nat} (h : k < cs.length) : cs.take (k + 1) = cs.take k ++ [cs.getD k 0] := by
  rw [take_succ_of (List.getElem?_eq_getElem h)]
  simp [h]
theorem get_mid {p q : List Nat} {c i : Nat} (h : i = p.length) : (p ++ c :: q)[i]? = some c := by
  subst h
  rw [List.getElem?_append_right (Nat.le_refl _), Nat.sub_self]; rfl
theorem cut_num {ls cs pre post t : List Nat} {k n : Nat} (hk : k < n) (ht : t = pre ++ wrW ls cs n ++ post) {i j : Int} (hi : i = ((pre ++ wrW ls cs k).length : Int)) (hj : j = (((pre ++ wrW ls cs k).length + (TL.numL (ls.getD k 0)).length : Nat) : Int)) :
    fnSl (.str (S t)) (some i) (some j) = some (.str (S (TL.numL (ls.getD k 0)))) := by
  have et : t = (pre ++ wrW ls cs k) ++ (TL.numL (ls.getD k 0) ++ ((cs.drop k).take 1 ++ wrZ ls cs (k + 1) n ++ post)) := by
    rw [ht, wrW_cut (Nat.le_of_lt hk), wrZ_step hk]
    unfold pcW
    simp only [List.append_assoc]
  rw [et]
  exact midS hi hj
theorem cut_num0 {ls cs post t : List Nat} {n : Nat} (hk : 0 < n) (ht : t = wrW ls cs n ++ post) {j : Int} (hj : j = ((TL.numL (ls.getD 0 0)).length : Int)) :
    fnSl (.str (S t)) none (some j) = some (.str (S (TL.numL (ls.getD 0 0)))) := by
  have et : t = TL.numL (ls.getD 0 0) ++ ((cs.drop 0).take 1 ++ wrZ ls cs 1 n ++ post) := by
    rw [ht, wrW_cut (k := 0) (by omega), wrZ_step hk]
    show [] ++ pcW ls cs 0 ++ _ ++ _ = _
    unfold pcW
    simp only [List.append_assoc, List.nil_append]
  rw [et]
  exact toS hj
theorem take_getD {ls : List Nat} {k : Nat} (h : k < ls.length) : natsD (ls.take (k + 1)) = natsD (ls.take k) ++ [.int ((ls.getD k 0 : Nat) : Int)] := by
  rw [take_succ_of (List.getElem?_eq_getElem h)]
  unfold natsD
  rw [List.map_append]
  simp [h]
def sp_sign : Sp3 := fun ars Q _ => ∃ (p q : List Nat), (p ++ q).length ≤ 1000000 ∧ ars = [.d (.str (S (p ++ q))), .d (.int (p.length : Int))] ∧ Q (.d (.bool (match q.head? with | some c => decide (c ∈ [77, 86, 70]) | none => false))) (.lst [])
theorem ok_sign {f : Addr} {fd : FuncData} (F : Fun K "is_sign" "is_sign" s_is_sign f fd) (hm : mg "is_sign" = some (.ref f)) (hb : Binds K fd ["text", "at"] []) :
    Fn3 P w K mg base 1 "is_sign" 2 none sp_sign := by
  refine ok3 F sc_is_sign rfl (by decide) hm hb fun cdv A outer s H hr => ⟨_, (b3one (s3ret (p3and (p3cmp (o_ne hr.units) (p3sl (pv3 0) (o3some (pv3 1)) (o3some (p3op o_add (pv3 1) p3int))) p3str (nomark _)) (p3one (p3cmp (o_in (in_room hr)) (p3ix (pv3 0) (pv3 1) (fun _ _ => rfl)) p3str (by rfl)))))), fun ars Q3 E3 hl h => ?_⟩
  obtain ⟨p, q, hlen, rfl, qq⟩ := h
  obtain ⟨t, ht⟩ : ∃ t, t = p ++ q := ⟨_, rfl⟩
  rw [← ht] at hlen ⊢
  have e1 : (t.drop p.length).take 1 = q.take 1 := by rw [ht]; simp
  have hsz : cdSl (.str (S t)) := cdSlS (by omega)
  have hsx : ∀ i, cdIx (.str (S t)) (.int i) := fun i => cdIxS (by omega)
  walk_at "ts"
  rw [e1]
  refine ⟨hsz, ?_⟩
  cases q with
  | nil =>
    walk_at "ts"
    exact qq
  | cons c q =>
    have e2 : t[(p.length : Int).toNat]? = some c := by rw [ht]; simp
    walk_at "ts"
    refine ⟨_, ix_str (by omega) e2, hsx _, ?_⟩
    walk_at "xs"
    exact qq
def sp_rstrip : Sp3 := fun ars Q _ => ∃ (ls cs : List Nat), GoodLs ls ∧ GoodCs cs ∧ ls.length ≤ 1000 ∧ cs.length + 1 = ls.length ∧ ars = [.d (.str (S (wrW ls cs ls.length)))] ∧ Q (.d (.tuple [.tuple (natsD ls), .str (S cs)])) (.lst [])
theorem ok_rstrip {f : Addr} {fd : FuncData} (F : Fun K "read_strip" "read_strip" s_read_strip f fd) (hm : mg "read_strip" = some (.ref f)) (hb : Binds K fd ["text"] []) (m_len : mg "len" = none) (m_int : mg "int" = none) (m_tuple : mg "tuple" = none)
    (c_length_end : Fn3 P w K mg base 1 "length_end" 2 none sp_le) (c_is_sign : Fn3 P w K mg base 1 "is_sign" 2 none sp_sign) :
    Fn3 P w K mg base 2 "read_strip" 1 none sp_rstrip := by
  refine ok3 F sc_read_strip rfl (by decide) hm hb fun cdv A outer s H hr => ⟨_, (b3cons (s3set (i := 1) sc_read_strip.nd rfl (.inl rfl) (p3call c_length_end hr (by omega) (by rfl) (a3cons (pv3 0) (a3cons p3int a3nil))))
      (b3cons (s3set (i := 2) sc_read_strip.nd rfl (.inl rfl) (p3lst (a3cons (p3callTy c_int (by rfl) m_int (by decide +kernel) (a3cons (p3sl (pv3 0) o3none (o3some (pv3 1))) a3nil)) a3nil)))
      (b3cons (s3set (i := 3) sc_read_strip.nd rfl (.inl rfl) p3str)
      (b3cons (s3while PassesOwn.never (t3cmp o_lt (pv3 1) (p3callB c_len (by rfl) m_len (by decide +kernel) (a3cons (pv3 0) a3nil)) (nomark _)) (b3cons (s3if (t3notP (t3val (p3call c_is_sign hr (by omega) (by rfl) (a3cons (pv3 0) (a3cons (pv3 1) a3nil))))) (b3one s3never) b3nil)
      (b3cons (s3aug (i := 3) sc_read_strip.nd rfl (.inl rfl) (p3ix (pv3 0) (pv3 1) (fun _ _ => rfl)) io_add)
      (b3cons (s3set (i := 4) sc_read_strip.nd rfl (.inl rfl) (p3op o_add (pv3 1) p3int))
      (b3cons (s3set (i := 1) sc_read_strip.nd rfl (.inl rfl) (p3call c_length_end hr (by omega) (by rfl) (a3cons (pv3 0) (a3cons (pv3 4) a3nil))))
      (b3one (s3expr (p3meth PySem.F.plainAttrs_list PySem.F.slot_list_append PySem.F.type_list_append m_append (pv3 2) (a3cons (p3callTy c_int (by rfl) m_int (by decide +kernel) (a3cons (p3sl (pv3 0) (o3some (pv3 4)) (o3some (pv3 1))) a3nil)) a3nil)))))))))
      (b3one (s3ret (p3tup (a3cons (p3callTy c_tuple (by rfl) m_tuple (by decide +kernel) (a3cons (pv3 2) a3nil)) (a3cons (pv3 3) a3nil))))))))), fun ars Q3 E3 hl h => ?_⟩
  obtain ⟨ls, cs, hls, hcs, hll, hcl, rfl, q⟩ := h
  /- 0:text 1:end 2:lengths 3:signs 4:begin -/
  obtain ⟨t, ht⟩ : ∃ t, t = wrW ls cs ls.length := ⟨_, rfl⟩
  have hlen : t.length ≤ 100000 := by
    rw [ht]; exact Nat.le_trans (wr_le (cs := cs) hls (Nat.le_refl _)) (by omega)
  have ht1 : t = [] ++ wrW ls cs ls.length ++ [] := by rw [ht]; simp
  rw [← ht]
  have hn : 0 < ls.length := by omega
  have hsz : cdSl (.str (S t)) := cdSlS (by omega)
  have hsx : ∀ i, cdIx (.str (S t)) (.int i) := fun i => cdIxS (by omega)
  walk_at "xs"
  refine le_call (pre := []) (post := []) (k := 0) hls hcs hn rfl (by omega) nofun ht1 (by omega) rfl ?_
  walk_at "xs"
  refine ⟨_, cut_num0 (ls := ls) (cs := cs) (post := []) hn (by rw [ht]; simp) (by simp [wrW]), hsz, ?_⟩
  walk_at "xs"
  have hnl : ∀ k, k < ls.length → (TL.numL (ls.getD k 0)).length ≤ 640 := fun k hk => Nat.le_trans (num_le hls hk) (by decide)
  refine ⟨_, intN (Nat.le_trans (hnl 0 hn) (by decide)), cdIntS (hnl 0 hn), ?_⟩
  walk_at "xs"
  refine .mk (fun m ρ => ∃ (k : Nat) (s : Sl), k + 1 + m = ls.length ∧ ρ = [.d (.str (S t)), .d (.int (((wrW ls cs k).length + (TL.numL (ls.getD k 0)).length : Nat) : Int)), .ow none (.lst (natsD (ls.take (k + 1)))), .d (.str (S (cs.take k))), s]) (ls.length - 1) ⟨0, .no, by omega, ?_⟩ ?_
  · rw [take_getD hn]; rfl
  rintro m ρ ⟨k, s4, hk, rfl⟩
  walk_at "xs"
  refine ⟨cdLenS (by omega), ?_⟩
  walk_at "xs"
  have hat := at_num (k := k) (by omega) ht1
  simp only [List.nil_append, List.append_nil] at hat
  have hsum : ((wrW ls cs k ++ TL.numL (ls.getD k 0)).length : Int) = (((wrW ls cs k).length + (TL.numL (ls.getD k 0)).length : Nat) : Int) := by rw [List.length_append]
  refine ite2 (fun e => ?_) (fun e => ?_)
  · have e' : (((wrW ls cs k).length + (TL.numL (ls.getD k 0)).length : Nat) : Int) < (t.length : Int) := of_decide_eq_true e
    have hk1 : k < cs.length := by
      by_cases h : k < cs.length
      · exact h
      · exfalso
        have h1 : k + 1 = ls.length := by omega
        rw [h1, wrZ_end, List.drop_eq_nil_of_le (by omega)] at hat
        have := congrArg List.length hat
        simp only [List.length_append, List.take_nil, List.length_nil] at this
        omega
    have hc := hcs _ (getD_inN hk1)
    rw [sg_at hk1, List.singleton_append] at hat
    walk_at "xs"
    refine ⟨wrW ls cs k ++ TL.numL (ls.getD k 0), cs.getD k 0 :: wrZ ls cs (k + 1) ls.length, by rw [← hat]; omega, by rw [← hat, hsum], ?_⟩
    walk_at "xs"
    refine ifF (by rcases hc with e | e | e <;> (rw [e]; exact Bool.false_ne_true)) ?_
    walk_at "xs"
    have hix : t[(((wrW ls cs k).length + (TL.numL (ls.getD k 0)).length : Nat) : Int).toNat]? = some (cs.getD k 0) := by
      rw [hat]
      exact get_mid (by rw [Int.toNat_natCast, List.length_append])
    refine ⟨_, ix_str (by omega) hix, hsx _, ?_⟩
    walk_at "ts"
    refine ⟨cdIAddS (by rw [List.length_take]; show _ + 1 ≤ _; omega), ?_⟩
    walk_at "ts"
    have hk2 : k + 1 < ls.length := by omega
    have hbe : (((wrW ls cs k).length + (TL.numL (ls.getD k 0)).length : Nat) : Int) + 1 = (([] ++ wrW ls cs (k + 1)).length : Int) := by
      rw [List.nil_append, wr_succ]
      unfold pcW
      rw [sg_at hk1]
      simp only [List.length_append, List.length_cons, List.length_nil]
      omega
    refine le_call (pre := []) (post := []) (k := k + 1) hls hcs hk2 rfl (by omega) nofun ht1 (by omega) hbe ?_
    walk_at "xs"
    refine ⟨_, cut_num (pre := []) (post := []) hk2 ht1 hbe rfl, hsz, ?_⟩
    walk_at "xs"
    refine ⟨_, intN (Nat.le_trans (hnl _ hk2) (by decide)), cdIntS (hnl _ hk2), ?_⟩
    walk_at "xs"
    refine ⟨lt_line (by rw [List.length_map, List.length_take]; omega), ?_⟩
    refine ⟨m - 1, by omega, k + 1, .d (.int ((((wrW ls cs k).length + (TL.numL (ls.getD k 0)).length : Nat) : Int) + 1)), by omega, ?_⟩
    rw [take_getD hk2, take_getC hk1]
    rfl
  · have e' : ¬ (((wrW ls cs k).length + (TL.numL (ls.getD k 0)).length : Nat) : Int) < (t.length : Int) := fun z => e (decide_eq_true z)
    have hk1 : ¬ k < cs.length := fun h => by
      rw [sg_at h] at hat
      have := congrArg List.length hat
      simp only [List.length_append, List.length_cons, List.length_nil] at this
      omega
    walk_at "xs"
    rw [List.take_of_length_le (show ls.length ≤ k + 1 by omega), List.take_of_length_le (show cs.length ≤ k by omega)]
    exact q
def bandT (ls cs : List Nat) : List Nat := [40] ++ wrW ls cs ls.length ++ [41]
def sp_rband : Sp3 := fun ars Q _ => ∃ (ls cs : List Nat), GoodLs ls ∧ GoodCs cs ∧ 2 ≤ ls.length ∧ ls.length ≤ 1000 ∧ cs.length = ls.length ∧ ars = [.d (.str (S (bandT ls cs)))] ∧ Q (.d (.tuple [.tuple (natsD ls), .str (S cs)])) (.lst [])
theorem ok_rband {f : Addr} {fd : FuncData} (F : Fun K "read_band" "read_band" s_read_band f fd) (hm : mg "read_band" = some (.ref f)) (hb : Binds K fd ["text"] []) (m_len : mg "len" = none) (m_int : mg "int" = none) (m_tuple : mg "tuple" = none)
    (c_length_end : Fn3 P w K mg base 1 "length_end" 2 none sp_le) (c_is_sign : Fn3 P w K mg base 1 "is_sign" 2 none sp_sign) :
    Fn3 P w K mg base 2 "read_band" 1 none sp_rband := by
  refine ok3 F sc_read_band rfl (by decide) hm hb fun cdv A outer s H hr => ⟨_, (b3cons (s3if (t3cmp (o_ne hr.units) (p3sl (pv3 0) o3none (o3some p3int)) p3str (nomark _)) (b3one s3never) b3nil)
      (b3cons (s3set (i := 1) sc_read_band.nd rfl (.inl rfl) (p3lst a3nil))
      (b3cons (s3set (i := 2) sc_read_band.nd rfl (.inl rfl) p3str)
      (b3cons (s3set (i := 3) sc_read_band.nd rfl (.inl rfl) p3int)
      (b3cons (s3while PassesOwn.never (t3pw (w3or (t3cmp o_lt (p3callB c_len (by rfl) m_len (by decide +kernel) (a3cons (pv3 1) a3nil)) p3int (nomark _)) (w3or1 (t3cmp (o_ne hr.units) (p3sl (pv3 0) (o3some (pv3 3)) (o3some (p3op o_add (pv3 3) p3int))) p3str (nomark _))))) (b3cons (s3set (i := 4) sc_read_band.nd rfl (.inl rfl) (p3call c_length_end hr (by omega) (by rfl) (a3cons (pv3 0) (a3cons (pv3 3) a3nil))))
      (b3cons (s3if (t3notP (t3val (p3call c_is_sign hr (by omega) (by rfl) (a3cons (pv3 0) (a3cons (pv3 4) a3nil))))) (b3one s3never) b3nil)
      (b3cons (s3expr (p3meth PySem.F.plainAttrs_list PySem.F.slot_list_append PySem.F.type_list_append m_append (pv3 1) (a3cons (p3callTy c_int (by rfl) m_int (by decide +kernel) (a3cons (p3sl (pv3 0) (o3some (pv3 3)) (o3some (pv3 4))) a3nil)) a3nil)))
      (b3cons (s3aug (i := 2) sc_read_band.nd rfl (.inl rfl) (p3ix (pv3 0) (pv3 4) (fun _ _ => rfl)) io_add)
      (b3one (s3set (i := 3) sc_read_band.nd rfl (.inl rfl) (p3op o_add (pv3 4) p3int))))))))
      (b3cons (s3if (t3cmp o_lt (p3op o_add (pv3 3) p3int) (p3callB c_len (by rfl) m_len (by decide +kernel) (a3cons (pv3 0) a3nil)) (nomark _)) (b3one s3never) b3nil)
      (b3one (s3ret (p3tup (a3cons (p3callTy c_tuple (by rfl) m_tuple (by decide +kernel) (a3cons (pv3 1) a3nil)) (a3cons (pv3 2) a3nil))))))))))), fun ars Q3 E3 hl h => ?_⟩
  obtain ⟨ls, cs, hls, hcs, hl2, hll, hcl, rfl, q⟩ := h
  /- 0:text 1:lengths 2:signs 3:at 4:end -/
  obtain ⟨t, ht⟩ : ∃ t, t = bandT ls cs := ⟨_, rfl⟩
  have ht1 : t = [40] ++ wrW ls cs ls.length ++ [41] := ht
  have htl : t.length = (wrW ls cs ls.length).length + 2 := by rw [ht1]; simp
  have hlen : t.length ≤ 100000 := by
    rw [htl]; exact Nat.le_trans (Nat.add_le_add_right (wr_le (cs := cs) hls (Nat.le_refl _)) 2) (by omega)
  rw [← ht]
  have hsz : cdSl (.str (S t)) := cdSlS (by omega)
  have hsx : ∀ i, cdIx (.str (S t)) (.int i) := fun i => cdIxS (by omega)
  have hnl : ∀ k, k < ls.length → (TL.numL (ls.getD k 0)).length ≤ 640 := fun k hk => Nat.le_trans (num_le hls hk) (by decide)
  have e1 : t.take 1 = [40] := by rw [ht1]; rfl
  walk_at "xs"
  refine ⟨_, oneS0 rfl, hsz, ?_⟩
  rw [e1]
  walk_at "xs"
  refine .mk (fun m ρ => ∃ (k : Nat) (s : Sl), k + m = ls.length ∧ ρ = [.d (.str (S t)), .ow none (.lst (natsD (ls.take k))), .d (.str (S (cs.take k))), .d (.int (([40] ++ wrW ls cs k).length : Int)), s]) ls.length ⟨0, .no, by omega, rfl⟩ ?_
  rintro m ρ ⟨k, s4, hk, rfl⟩
  walk_at "xs"
  have hkl : (natsD (ls.take k)).length = k := by rw [List.length_map, List.length_take]; omega
  rcases Nat.lt_or_ge k ls.length with hkn | hkn
  · have hat := at_num (k := k) hkn ht1
    refine orT ?_ (fun e hG => ?_)
    · walk_at "xs"
      refine le_call (pre := [40]) (post := [41]) (k := k) hls hcs hkn rfl (by omega) (fun c h => by cases h; decide) ht1 (by omega) rfl ?_
      have hk1 : k < cs.length := by omega
      have hc := hcs _ (getD_inN hk1)
      replace hat : t = ([40] ++ wrW ls cs k ++ TL.numL (ls.getD k 0)) ++ cs.getD k 0 :: (wrZ ls cs (k + 1) ls.length ++ [41]) := by rw [hat, sg_at hk1]; rfl
      have hlp := congrArg List.length hat
      simp only [List.length_append, List.length_cons] at hlp
      walk_at "xs"
      refine ⟨[40] ++ wrW ls cs k ++ TL.numL (ls.getD k 0), cs.getD k 0 :: (wrZ ls cs (k + 1) ls.length ++ [41]), by rw [← hat]; omega, by rw [← hat, List.length_append (as := [40] ++ wrW ls cs k)], ?_⟩
      walk_at "xs"
      refine ifF (by rcases hc with e | e | e <;> (rw [e]; exact Bool.false_ne_true)) ?_
      walk_at "xs"
      refine ⟨_, cut_num (pre := [40]) (post := [41]) hkn ht1 rfl rfl, hsz, ?_⟩
      walk_at "xs"
      refine ⟨_, intN (Nat.le_trans (hnl _ hkn) (by decide)), cdIntS (hnl _ hkn), ?_⟩
      walk_at "xs"
      refine ⟨lt_line (by omega), ?_⟩
      walk_at "xs"
      have hix : t[((([40] ++ wrW ls cs k).length + (TL.numL (ls.getD k 0)).length : Nat) : Int).toNat]? = some (cs.getD k 0) := by
        rw [hat]
        exact get_mid (by rw [Int.toNat_natCast, List.length_append (as := [40] ++ wrW ls cs k)])
      refine ⟨_, ix_str (by omega) hix, hsx _, ?_⟩
      walk_at "ts"
      refine ⟨cdIAddS (by rw [List.length_take]; show _ + 1 ≤ _; omega), ?_⟩
      walk_at "ts"
      refine ⟨m - 1, by omega, k + 1, .d (.int ((([40] ++ wrW ls cs k).length + (TL.numL (ls.getD k 0)).length : Nat) : Int)), by omega, ?_⟩
      have hbe : ((([40] ++ wrW ls cs k).length + (TL.numL (ls.getD k 0)).length : Nat) : Int) + 1 = (([40] ++ wrW ls cs (k + 1)).length : Int) := by
        rw [wr_succ]
        unfold pcW
        rw [sg_at hk1]
        simp only [List.length_append, List.length_cons, List.length_nil]
        omega
      rw [take_getD hkn, take_getC hk1, ← hbe]
      rfl
    · obtain ⟨d, ds, ed, hd⟩ := num_head (hls _ (getD_inN hkn)).1
      have hdg := digs_num (ls.getD k 0) d (by rw [ed]; exact List.mem_cons_self)
      have e1 : (t.drop ([40] ++ wrW ls cs k).length).take 1 = [d] := by
        rw [hat, List.append_assoc, ed, List.drop_left]; rfl
      walk_at "ts"
      rw [e1]
      refine ⟨hsz, ?_⟩
      walk_at "xs"
      have e3 : eqD (.str (S [d])) (.str (S [41])) = false := by
        rw [eqS]
        refine decide_eq_false fun z => ?_
        cases z
        exact absurd hdg (by decide)
      have e4 : (!eqD (.str (S [d])) (.str ")")) = true := by
        show (!eqD (.str (S [d])) (.str (S [41]))) = true
        rw [e3]; rfl
      rw [e4]
      exact hG
  · have ek : k = ls.length := by omega
    subst ek
    have e1 : (t.drop ([40] ++ wrW ls cs ls.length).length).take 1 = [41] := by
      rw [ht1, List.drop_left]; rfl
    refine ifF (by rw [hkl, decide_eq_true_eq]; omega) ?_
    walk_at "ts"
    rw [e1]
    refine ⟨hsz, ?_⟩
    walk_at "xs"
    refine ⟨cdLenS (by omega), ?_⟩
    walk_at "xs"
    refine ifF (by
      have : ¬ ((([40] ++ wrW ls cs ls.length).length : Int) + 1 < (t.length : Int)) := by
        rw [htl, List.length_append]; simp; omega
      exact fun z => this (of_decide_eq_true z)) ?_
    walk_at "xs"
    rw [List.take_length, List.take_of_length_le (show cs.length ≤ ls.length by omega)]
    exact q
end
end Law

namespace Law
open PySem PySem.Spec PyProof.Rows L2 L3 SX
local macro_rules
  | `(tactic| walk_at "x") => `(tactic| first | refine ⟨_, rfl, trivial, ?_⟩ | refine ⟨_, rfl, ?_⟩ | refine ⟨_, _, rfl, trivial, ?_⟩ | refine ⟨_, _, rfl, ?_⟩ | refine ⟨_, _, _, rfl, ?_⟩ | refine ⟨_, _, _, _, _, rfl, ?_⟩ | refine ⟨lenOk rfl, ?_⟩ | refine ⟨ltOk rfl, ?_⟩ | refine ⟨rfl, ?_⟩ | refine ⟨mulR ⟨by decide, by decide⟩, ?_⟩ | refine ⟨mulL ⟨by decide, by decide⟩, ?_⟩ | refine ⟨modC (by decide), ?_⟩ | refine ⟨divC (by decide), ?_⟩ | refine ⟨powC (by decide), ?_⟩ | refine iteT ?_ | refine iteF ?_)
local macro_rules
  | `(tactic| walk_at "xs") => `(tactic| repeat (walk_at "x"))
local macro_rules
  | `(tactic| walk_at "r") => `(tactic| refine ⟨⟨by omega, by omega⟩, ?_⟩)
local macro_rules
  | `(tactic| walk_at "t") => `(tactic| first | refine ⟨_, strN, ?_⟩ | refine ⟨_, addS, ?_⟩ | refine ⟨_, iaddS, ?_⟩ | refine ⟨_, oneS rfl rfl, ?_⟩ | walk_at "x")
local macro_rules
  | `(tactic| walk_at "ts") => `(tactic| repeat (walk_at "t"))
local macro_rules
  | `(tactic| walk_at "s1") => `(tactic| refine at_st (ρ' := [_]) rfl ?_)
local macro_rules
  | `(tactic| walk_at "s2") => `(tactic| refine at_st (ρ' := [_, _]) rfl ?_)
local macro_rules
  | `(tactic| walk_at "s3") => `(tactic| refine at_st (ρ' := [_, _, _]) rfl ?_)
local macro_rules
  | `(tactic| walk_at "s4") => `(tactic| refine at_st (ρ' := [_, _, _, _]) rfl ?_)
local macro_rules
  | `(tactic| walk_at "s5") => `(tactic| refine at_st (ρ' := [_, _, _, _, _]) rfl ?_)
local macro_rules
  | `(tactic| walk_at "s6") => `(tactic| refine at_st (ρ' := [_, _, _, _, _, _]) rfl ?_)
local macro_rules
  | `(tactic| walk_at "s7") => `(tactic| refine at_st (ρ' := [_, _, _, _, _, _, _]) rfl ?_)
local macro_rules
  | `(tactic| walk_at "s8") => `(tactic| refine at_st (ρ' := [_, _, _, _, _, _, _, _]) rfl ?_)
local macro_rules
  | `(tactic| walk_at "s9") => `(tactic| refine at_st (ρ' := [_, _, _, _, _, _, _, _, _]) rfl ?_)
local macro_rules
  | `(tactic| walk_at "s10") => `(tactic| refine at_st (ρ' := [_, _, _, _, _, _, _, _, _, _]) rfl ?_)
local macro_rules
  | `(tactic| walk_at "s11") => `(tactic| refine at_st (ρ' := [_, _, _, _, _, _, _, _, _, _, _]) rfl ?_)
local macro_rules
  | `(tactic| walk_at "s12") => `(tactic| refine at_st (ρ' := [_, _, _, _, _, _, _, _, _, _, _, _]) rfl ?_)
local macro_rules
  | `(tactic| walk_at "s13") => `(tactic| refine at_st (ρ' := [_, _, _, _, _, _, _, _, _, _, _, _, _]) rfl ?_)
local macro_rules
  | `(tactic| walk_at "s14") => `(tactic| refine at_st (ρ' := [_, _, _, _, _, _, _, _, _, _, _, _, _, _]) rfl ?_)
local macro_rules
  | `(tactic| walk_at "s15") => `(tactic| refine at_st (ρ' := [_, _, _, _, _, _, _, _, _, _, _, _, _, _, _]) rfl ?_)
local macro_rules
  | `(tactic| walk_at "s16") => `(tactic| refine at_st (ρ' := [_, _, _, _, _, _, _, _, _, _, _, _, _, _, _, _]) rfl ?_)
set_option maxHeartbeats 2000000
section
variable {P : Program} {w : World} {K : PySem.W.Frag} {mg : Str → Option Value} {base : Heap}
theorem same_str (t : List Nat) : SameD 2 (.str (S t)) := .inl (.inr (.inr (.inr ⟨_, rfl⟩)))
theorem same_pair {ls cs : List Nat} (h : ls.length ≤ 1000) : SameD 2 (pairD ls cs) := by
  refine .inr ⟨_, rfl, show 2 ≤ 16000000 by decide, fun y hy => ?_⟩
  simp only [List.mem_cons, List.not_mem_nil, or_false] at hy
  rcases hy with rfl | rfl
  · refine .inr ⟨_, rfl, by rw [List.length_map]; omega, fun z hz => ?_⟩
    obtain ⟨n, _, rfl⟩ := List.mem_map.mp hz
    exact .inr (.inr (.inl ⟨_, rfl⟩))
  · exact .inl (.inr (.inr (.inr ⟨_, rfl⟩)))
theorem ok_law {f : Addr} {fd : FuncData} (F : Fun K "law" "law" s_law f fd) (hm : mg "law" = some (.ref f)) (hb : Binds K fd ["script"] []) (m_int : mg "int" = none) (m_max : mg "max" = none)
    (c__law_take : Fn3 P w K mg base 1 "_law_take" 2 (some 0) sp_take) (c__law_raw : Fn3 P w K mg base 2 "_law_raw" 2 (some 1) sp_raw) (c__law_draws : Fn3 P w K mg base 1 "_law_draws" 2 none sp_draws) (c__law_same : Fn3 P w K mg base 3 "_law_same" 2 none (sp_same 2))
    (c__law_pair : Fn3 P w K mg base 3 "_law_pair" 4 (some 0) sp_pair) (c__law_parts : Fn3 P w K mg base 2 "_law_parts" 1 (some 0) sp_parts) (c__law_written : Fn3 P w K mg base 1 "_law_written" 2 none sp_written)
    (c_write_strip : Fn3 P w K mg base 1 "write_strip" 1 none sp_wstrip) (c_write_band : Fn3 P w K mg base 2 "write_band" 1 none sp_wband) (c_read_strip : Fn3 P w K mg base 2 "read_strip" 1 none sp_rstrip) (c_read_band : Fn3 P w K mg base 2 "read_band" 1 none sp_rband) :
    FnOk P w K mg base CX0 5 f fd ["script"] (prom K 1 none sp_law) := by
  refine ok3F F sc_law rfl (by decide) hm hb fun cdv A outer s H hr => ⟨_, (b3cons (s3set (i := 1) sc_law.nd rfl (.inl rfl) (p3call c__law_draws hr (by omega) (by rfl) (a3cons (pv3 0) (a3cons p3int a3nil))))
      (b3cons (s3set (i := 2) sc_law.nd rfl (.inl rfl) (p3call c__law_raw hr (by omega) (by rfl) (a3cons (pv3 0) (a3cons (pv3 1) a3nil))))
      (b3cons (s3set (i := 3) sc_law.nd rfl (.inl rfl) (p3call c__law_pair hr (by omega) (by rfl) (a3cons (pv3 1) (a3cons (pv3 2) (a3cons (p3op o_add p3int (p3call c__law_take hr (by omega) (by rfl) (a3cons (pv3 1) (a3cons p3int a3nil)))) (a3cons p3int a3nil))))))
      (b3cons (s3set (i := 4) sc_law.nd rfl (.inl rfl) (p3call c__law_pair hr (by omega) (by rfl) (a3cons (pv3 1) (a3cons (pv3 2) (a3cons (p3op o_add p3int (p3call c__law_take hr (by omega) (by rfl) (a3cons (pv3 1) (a3cons p3int a3nil)))) (a3cons p3int a3nil))))))
      (b3cons (s3set (i := 5) sc_law.nd rfl (.inl rfl) (p3call c__law_parts hr (by omega) (by rfl) (a3cons (pv3 1) a3nil)))
      (b3cut (s3if (t3cmp (o_eq hr.units) (p3call c__law_take hr (by omega) (by rfl) (a3cons (pv3 1) (a3cons p3int a3nil))) p3int (nomark _)) (b3cons (s3set (i := 6) sc_law.nd rfl (.inl rfl) (p3call c__law_pair hr (by omega) (by rfl) (a3cons (pv3 1) (a3cons (pv3 2) (a3cons (p3op o_add (pv3 5) (p3callTy c_int (by rfl) m_int (by decide +kernel) (a3cons (p3cmp o_gt (pv3 5) p3int (nomark _)) a3nil))) (a3cons p3int a3nil))))))
      (b3one (s3set (i := 7) sc_law.nd rfl (.inl rfl) (pv3 4)))) (b3cons (s3set (i := 6) sc_law.nd rfl (.inl rfl) (pv3 3))
      (b3one (s3set (i := 7) sc_law.nd rfl (.inl rfl) (p3call c__law_pair hr (by omega) (by rfl) (a3cons (pv3 1) (a3cons (pv3 2) (a3cons (p3callB (c_max (by rfl)) (by rfl) m_max (by decide +kernel) (a3cons (pv3 5) (a3cons p3int a3nil))) (a3cons p3int a3nil)))))))))
      (b3cons (s3for PassesOwn.never (by rfl) (i3seq (p3lst (a3cons (pv3 3) (a3cons (pv3 6) (a3cons (pv3 3) a3nil))))) (g3name (i := 8) sc_law.nd rfl (.inl rfl)) (b3cons (s3set (i := 9) sc_law.nd rfl (.inl rfl) (p3call c__law_written hr (by omega) (by rfl) (a3cons (p3ix (pv3 8) p3int (fun _ _ => rfl)) (a3cons (p3ix (pv3 8) p3int (fun _ _ => rfl)) a3nil))))
      (b3one (s3if (t3pw (w3or (t3notP (t3val (p3call c__law_same hr (by omega) (by rfl) (a3cons (p3call c_write_strip hr (by omega) (by rfl) (a3cons (pv3 8) a3nil)) (a3cons (pv3 9) a3nil))))) (w3or1 (t3notP (t3val (p3call c__law_same hr (by omega) (by rfl) (a3cons (p3call c_read_strip hr (by omega) (by rfl) (a3cons (pv3 9) a3nil)) (a3cons (pv3 8) a3nil)))))))) (b3one (s3ret p3bl)) b3nil))))
      (b3cons (s3for PassesOwn.never (by rfl) (i3seq (p3lst (a3cons (pv3 4) (a3cons (pv3 7) (a3cons (pv3 4) a3nil))))) (g3name (i := 8) sc_law.nd rfl (.inl rfl)) (b3cons (s3set (i := 9) sc_law.nd rfl (.inl rfl) (p3op o_add (p3op o_add p3str (p3call c__law_written hr (by omega) (by rfl) (a3cons (p3ix (pv3 8) p3int (fun _ _ => rfl)) (a3cons (p3ix (pv3 8) p3int (fun _ _ => rfl)) a3nil)))) p3str))
      (b3one (s3if (t3pw (w3or (t3notP (t3val (p3call c__law_same hr (by omega) (by rfl) (a3cons (p3call c_write_band hr (by omega) (by rfl) (a3cons (pv3 8) a3nil)) (a3cons (pv3 9) a3nil))))) (w3or1 (t3notP (t3val (p3call c__law_same hr (by omega) (by rfl) (a3cons (p3call c_read_band hr (by omega) (by rfl) (a3cons (pv3 9) a3nil)) (a3cons (pv3 8) a3nil)))))))) (b3one (s3ret p3bl)) b3nil))))
      (b3one (s3ret p3bl)))))))))), fun ars Q3 E3 hl h => ?_⟩
  obtain ⟨ns, hns, rfl, q⟩ := h
  /- 0:script 1:draws 2:cell 3:small 4:ring 5:many 6:strip 7:band 8:asked 9:text -/
  walk_at "xs"
  refine ⟨hns, by decide, fun ds0 => ?_⟩
  walk_at "xs"
  rintro cell ds1
  walk_at "x"
  walk_at "s10"
  walk_at "xs"
  refine ⟨by decide, fun r1 ds2 g0 g1 => ?_⟩
  obtain ⟨n1, rfl⟩ := Int.eq_ofNat_of_zero_le g0
  walk_at "xs"
  refine ⟨ds2, cell, 1 + n1, 0, by omega, by omega, by omega, rfl, fun ls1 cs1 ds3 hl1 hc1 hn1 hm1 => ?_⟩
  walk_at "x"
  walk_at "s10"
  walk_at "xs"
  refine ⟨by decide, fun r2 ds4 g2 g3 => ?_⟩
  obtain ⟨n2, rfl⟩ := Int.eq_ofNat_of_zero_le g2
  walk_at "xs"
  refine ⟨ds4, cell, 2 + n2, 1, by omega, by omega, by omega, rfl, fun ls2 cs2 ds5 hl2 hc2 hn2 hm2 => ?_⟩
  walk_at "x"
  walk_at "s10"
  walk_at "xs"
  rintro mn ds6 hmn0 hmn1
  walk_at "x"
  walk_at "s10"
  refine .mk (fun ρ => ∃ (lsA csA lsB csB : List Nat) (es : List Int) (s8 s9 : Sl), StripOk lsA csA ∧ BandOk lsB csB ∧
    ρ = [.d (scrD ns), .ow none (.lst (es.map .int)), .d (.int cell), .d (pairD ls1 cs1), .d (pairD ls2 cs2), .d (.int mn), .d (pairD lsA csA), .d (pairD lsB csB), s8, s9]) ?_ ?_
  · walk_at "xs"
    refine ⟨by decide, fun r3 ds7 g4 g5 => ?_⟩
    walk_at "xs"
    refine ite2 (fun _ => ?_) (fun _ => ?_)
    · walk_at "xs"
      by_cases h298 : 298 < mn
      · rw [if_pos (decide_eq_true (by omega))]
        refine ⟨ds7, cell, mn + 1, 0, by omega, by omega, by omega, rfl, fun lsA csA ds8 hlA hcA hnA hmA => ?_⟩
        walk_at "x"
        walk_at "s10"
        walk_at "xs"
        exact ⟨lsA, csA, ls2, cs2, ds8, _, _, ⟨hlA, hcA, by omega, by omega, by omega⟩, ⟨hl2, hc2, by omega, by omega, by omega⟩, rfl⟩
      · rw [if_neg (fun z => h298 (by have := of_decide_eq_true z; omega))]
        refine ⟨ds7, cell, mn, 0, by omega, by omega, by omega, by rw [Int.add_zero]; rfl, fun lsA csA ds8 hlA hcA hnA hmA => ?_⟩
        walk_at "x"
        walk_at "s10"
        walk_at "xs"
        exact ⟨lsA, csA, ls2, cs2, ds8, _, _, ⟨hlA, hcA, by omega, by omega, by omega⟩, ⟨hl2, hc2, by omega, by omega, by omega⟩, rfl⟩
    · walk_at "xs"
      by_cases h2 : mn < 2
      · rw [if_pos (show (2 : Int) > mn by omega)]
        refine ⟨ds7, cell, 2, 1, by omega, by omega, by omega, rfl, fun lsB csB ds8 hlB hcB hnB hmB => ?_⟩
        walk_at "x"
        walk_at "s10"
        exact ⟨ls1, cs1, lsB, csB, ds8, _, _, ⟨hl1, hc1, by omega, by omega, by omega⟩, ⟨hlB, hcB, by omega, by omega, by omega⟩, rfl⟩
      · rw [if_neg (show ¬ (2 : Int) > mn by omega)]
        refine ⟨ds7, cell, mn, 1, by omega, by omega, by omega, rfl, fun lsB csB ds8 hlB hcB hnB hmB => ?_⟩
        walk_at "x"
        walk_at "s10"
        exact ⟨ls1, cs1, lsB, csB, ds8, _, _, ⟨hl1, hc1, by omega, by omega, by omega⟩, ⟨hlB, hcB, by omega, by omega, by omega⟩, rfl⟩
  · rintro ρ ⟨lsA, csA, lsB, csB, es, s8, s9, hA, hB, rfl⟩
    have h1 : StripOk ls1 cs1 := ⟨hl1, hc1, by omega, by omega, by omega⟩
    have h2 : BandOk ls2 cs2 := ⟨hl2, hc2, by omega, by omega, by omega⟩
    walk_at "xs"
    refine for_pre (ns := [(ls1, cs1), (lsA, csA), (ls1, cs1)]) (g := fun p => pairD p.1 p.2) (fun _ ρ => ∃ s8 s9 : Sl, ρ = [.d (scrD ns), .ow none (.lst (es.map .int)), .d (.int cell), .d (pairD ls1 cs1), .d (pairD ls2 cs2), .d (.int mn), .d (pairD lsA csA), .d (pairD lsB csB), s8, s9]) ⟨_, _, rfl⟩ ?_ ?_
    · rintro pre ⟨ls, cs⟩ post ρ P hp ⟨s8, s9, rfl⟩ hP
      have hg : StripOk ls cs := by
        have : (ls, cs) ∈ [(ls1, cs1), (lsA, csA), (ls1, cs1)] := by rw [hp]; simp
        simp only [List.mem_cons, List.not_mem_nil, or_false, Prod.mk.injEq] at this
        rcases this with ⟨rfl, rfl⟩ | ⟨rfl, rfl⟩ | ⟨rfl, rfl⟩
        · exact h1
        · exact hA
        · exact h1
      obtain ⟨g1, g2, g3, g4, g5⟩ := hg
      walk_at "xs"
      refine ⟨ls, cs, g1, by omega, by omega, rfl, ?_⟩
      walk_at "x"
      walk_at "s10"
      walk_at "xs"
      refine ⟨ls, cs, g1, by omega, by omega, rfl, ?_⟩
      walk_at "xs"
      refine ⟨.str (S (wrW ls cs ls.length)), same_str _, rfl, ?_⟩
      walk_at "xs"
      refine ⟨ls, cs, g1, g2, by omega, g5, rfl, ?_⟩
      walk_at "xs"
      refine ⟨pairD ls cs, same_pair (by omega), rfl, ?_⟩
      walk_at "xs"
      exact hP _ ⟨_, _, rfl⟩
    · rintro ρ ⟨s8, s9, rfl⟩
      walk_at "xs"
      refine for_pre (ns := [(ls2, cs2), (lsB, csB), (ls2, cs2)]) (g := fun p => pairD p.1 p.2) (fun _ ρ => ∃ s8 s9 : Sl, ρ = [.d (scrD ns), .ow none (.lst (es.map .int)), .d (.int cell), .d (pairD ls1 cs1), .d (pairD ls2 cs2), .d (.int mn), .d (pairD lsA csA), .d (pairD lsB csB), s8, s9]) ⟨_, _, rfl⟩ ?_ ?_
      · rintro pre ⟨ls, cs⟩ post ρ P hp ⟨s8, s9, rfl⟩ hP
        have hg : BandOk ls cs := by
          have : (ls, cs) ∈ [(ls2, cs2), (lsB, csB), (ls2, cs2)] := by rw [hp]; simp
          simp only [List.mem_cons, List.not_mem_nil, or_false, Prod.mk.injEq] at this
          rcases this with ⟨rfl, rfl⟩ | ⟨rfl, rfl⟩ | ⟨rfl, rfl⟩
          · exact h2
          · exact hB
          · exact h2
        obtain ⟨g1, g2, g3, g4, g5⟩ := hg
        have hw := wr_le (cs := cs) g1 (k := ls.length) (by omega)
        walk_at "xs"
        refine ⟨ls, cs, g1, by omega, by omega, rfl, ?_⟩
        walk_at "ts"
        refine ⟨cdAddS (a := [40]) (b := wrW ls cs ls.length) (by show 1 + _ ≤ _; omega), ?_⟩
        walk_at "ts"
        refine ⟨cdAddS (a := [40] ++ wrW ls cs ls.length) (b := [41]) (by rw [List.length_append]; show 1 + _ + 1 ≤ _; omega), ?_⟩
        walk_at "x"
        walk_at "s10"
        walk_at "xs"
        refine ⟨ls, cs, g1, by omega, by omega, rfl, ?_⟩
        walk_at "xs"
        refine ⟨.str (S (40 :: wrW ls cs ls.length ++ [41])), same_str _, rfl, ?_⟩
        walk_at "xs"
        refine ⟨ls, cs, g1, g2, g3, by omega, by omega, rfl, ?_⟩
        walk_at "xs"
        refine ⟨pairD ls cs, same_pair (by omega), rfl, ?_⟩
        walk_at "xs"
        exact hP _ ⟨_, _, rfl⟩
      · rintro ρ ⟨s8, s9, rfl⟩
        walk_at "xs"
        exact q
end
end Law

namespace Law
open PySem PySem.Spec PyProof.Rows L2 L3 SX
theorem all_mk {l : PySem.W.OpenLaw} {w : World} {K : PySem.W.Frag} {h : Heap} {mg : Str → Option Value} {fa : Addr} (X : K.In h) (G : h.Ns mainGlobals mg) (hfa : mg "law" = some (.ref fa))
    {f0 : Addr} {od0 an0 : Option Addr} {sl0 : Array (Option Value)} {oc0 kV0 dc0 pm0 cd0 ct0 : Value}
    (a0 : PySem.W.nsIn K mainGlobals "_law_take" = some (some (.ref f0))) (l0 : K.lookup f0 = some ⟨oc0, od0, .func (PySem.W.fnOf "_law_take" "_law_take" (defArgs s__law_take) (defBody s__law_take) (defScope s__law_take) .none kV0 dc0 pm0 an0 cd0 ct0), sl0⟩) (c0 : PySem.W.codeIn K cd0 "_law_take" = true) (k0 : PySem.W.keepIn K (.ref f0) = true)
    {f1 : Addr} {od1 an1 : Option Addr} {sl1 : Array (Option Value)} {oc1 kV1 dc1 pm1 cd1 ct1 : Value}
    (a1 : PySem.W.nsIn K mainGlobals "_law_raw" = some (some (.ref f1))) (l1 : K.lookup f1 = some ⟨oc1, od1, .func (PySem.W.fnOf "_law_raw" "_law_raw" (defArgs s__law_raw) (defBody s__law_raw) (defScope s__law_raw) .none kV1 dc1 pm1 an1 cd1 ct1), sl1⟩) (c1 : PySem.W.codeIn K cd1 "_law_raw" = true) (k1 : PySem.W.keepIn K (.ref f1) = true)
    {f2 : Addr} {od2 an2 : Option Addr} {sl2 : Array (Option Value)} {oc2 kV2 dc2 pm2 cd2 ct2 : Value}
    (a2 : PySem.W.nsIn K mainGlobals "_law_draws" = some (some (.ref f2))) (l2 : K.lookup f2 = some ⟨oc2, od2, .func (PySem.W.fnOf "_law_draws" "_law_draws" (defArgs s__law_draws) (defBody s__law_draws) (defScope s__law_draws) .none kV2 dc2 pm2 an2 cd2 ct2), sl2⟩) (c2 : PySem.W.codeIn K cd2 "_law_draws" = true) (k2 : PySem.W.keepIn K (.ref f2) = true)
    {f3 : Addr} {od3 an3 : Option Addr} {sl3 : Array (Option Value)} {oc3 kV3 dc3 pm3 cd3 ct3 : Value}
    (a3 : PySem.W.nsIn K mainGlobals "_law_same" = some (some (.ref f3))) (l3 : K.lookup f3 = some ⟨oc3, od3, .func (PySem.W.fnOf "_law_same" "_law_same" (defArgs s__law_same) (defBody s__law_same) (defScope s__law_same) .none kV3 dc3 pm3 an3 cd3 ct3), sl3⟩) (c3 : PySem.W.codeIn K cd3 "_law_same" = true) (k3 : PySem.W.keepIn K (.ref f3) = true)
    {f4 : Addr} {od4 an4 : Option Addr} {sl4 : Array (Option Value)} {oc4 kV4 dc4 pm4 cd4 ct4 : Value}
    (a4 : PySem.W.nsIn K mainGlobals "_law_written" = some (some (.ref f4))) (l4 : K.lookup f4 = some ⟨oc4, od4, .func (PySem.W.fnOf "_law_written" "_law_written" (defArgs s__law_written) (defBody s__law_written) (defScope s__law_written) .none kV4 dc4 pm4 an4 cd4 ct4), sl4⟩) (c4 : PySem.W.codeIn K cd4 "_law_written" = true) (k4 : PySem.W.keepIn K (.ref f4) = true)
    {f5 : Addr} {od5 an5 : Option Addr} {sl5 : Array (Option Value)} {oc5 kV5 dc5 pm5 cd5 ct5 : Value}
    (a5 : PySem.W.nsIn K mainGlobals "write_strip" = some (some (.ref f5))) (l5 : K.lookup f5 = some ⟨oc5, od5, .func (PySem.W.fnOf "write_strip" "write_strip" (defArgs s_write_strip) (defBody s_write_strip) (defScope s_write_strip) .none kV5 dc5 pm5 an5 cd5 ct5), sl5⟩) (c5 : PySem.W.codeIn K cd5 "write_strip" = true) (k5 : PySem.W.keepIn K (.ref f5) = true)
    {f6 : Addr} {od6 an6 : Option Addr} {sl6 : Array (Option Value)} {oc6 kV6 dc6 pm6 cd6 ct6 : Value}
    (a6 : PySem.W.nsIn K mainGlobals "write_band" = some (some (.ref f6))) (l6 : K.lookup f6 = some ⟨oc6, od6, .func (PySem.W.fnOf "write_band" "write_band" (defArgs s_write_band) (defBody s_write_band) (defScope s_write_band) .none kV6 dc6 pm6 an6 cd6 ct6), sl6⟩) (c6 : PySem.W.codeIn K cd6 "write_band" = true) (k6 : PySem.W.keepIn K (.ref f6) = true)
    {f7 : Addr} {od7 an7 : Option Addr} {sl7 : Array (Option Value)} {oc7 kV7 dc7 pm7 cd7 ct7 : Value}
    (a7 : PySem.W.nsIn K mainGlobals "_law_long" = some (some (.ref f7))) (l7 : K.lookup f7 = some ⟨oc7, od7, .func (PySem.W.fnOf "_law_long" "_law_long" (defArgs s__law_long) (defBody s__law_long) (defScope s__law_long) .none kV7 dc7 pm7 an7 cd7 ct7), sl7⟩) (c7 : PySem.W.codeIn K cd7 "_law_long" = true) (k7 : PySem.W.keepIn K (.ref f7) = true)
    {f8 : Addr} {od8 an8 : Option Addr} {sl8 : Array (Option Value)} {oc8 kV8 dc8 pm8 cd8 ct8 : Value}
    (a8 : PySem.W.nsIn K mainGlobals "_law_parts" = some (some (.ref f8))) (l8 : K.lookup f8 = some ⟨oc8, od8, .func (PySem.W.fnOf "_law_parts" "_law_parts" (defArgs s__law_parts) (defBody s__law_parts) (defScope s__law_parts) .none kV8 dc8 pm8 an8 cd8 ct8), sl8⟩) (c8 : PySem.W.codeIn K cd8 "_law_parts" = true) (k8 : PySem.W.keepIn K (.ref f8) = true)
    {f9 : Addr} {od9 an9 : Option Addr} {sl9 : Array (Option Value)} {oc9 kV9 dc9 pm9 cd9 ct9 : Value}
    (a9 : PySem.W.nsIn K mainGlobals "_law_pair" = some (some (.ref f9))) (l9 : K.lookup f9 = some ⟨oc9, od9, .func (PySem.W.fnOf "_law_pair" "_law_pair" (defArgs s__law_pair) (defBody s__law_pair) (defScope s__law_pair) .none kV9 dc9 pm9 an9 cd9 ct9), sl9⟩) (c9 : PySem.W.codeIn K cd9 "_law_pair" = true) (k9 : PySem.W.keepIn K (.ref f9) = true)
    {f10 : Addr} {od10 an10 : Option Addr} {sl10 : Array (Option Value)} {oc10 kV10 dc10 pm10 cd10 ct10 : Value}
    (a10 : PySem.W.nsIn K mainGlobals "length_end" = some (some (.ref f10))) (l10 : K.lookup f10 = some ⟨oc10, od10, .func (PySem.W.fnOf "length_end" "length_end" (defArgs s_length_end) (defBody s_length_end) (defScope s_length_end) .none kV10 dc10 pm10 an10 cd10 ct10), sl10⟩) (c10 : PySem.W.codeIn K cd10 "length_end" = true) (k10 : PySem.W.keepIn K (.ref f10) = true)
    {f11 : Addr} {od11 an11 : Option Addr} {sl11 : Array (Option Value)} {oc11 kV11 dc11 pm11 cd11 ct11 : Value}
    (a11 : PySem.W.nsIn K mainGlobals "is_sign" = some (some (.ref f11))) (l11 : K.lookup f11 = some ⟨oc11, od11, .func (PySem.W.fnOf "is_sign" "is_sign" (defArgs s_is_sign) (defBody s_is_sign) (defScope s_is_sign) .none kV11 dc11 pm11 an11 cd11 ct11), sl11⟩) (c11 : PySem.W.codeIn K cd11 "is_sign" = true) (k11 : PySem.W.keepIn K (.ref f11) = true)
    {f12 : Addr} {od12 an12 : Option Addr} {sl12 : Array (Option Value)} {oc12 kV12 dc12 pm12 cd12 ct12 : Value}
    (a12 : PySem.W.nsIn K mainGlobals "read_strip" = some (some (.ref f12))) (l12 : K.lookup f12 = some ⟨oc12, od12, .func (PySem.W.fnOf "read_strip" "read_strip" (defArgs s_read_strip) (defBody s_read_strip) (defScope s_read_strip) .none kV12 dc12 pm12 an12 cd12 ct12), sl12⟩) (c12 : PySem.W.codeIn K cd12 "read_strip" = true) (k12 : PySem.W.keepIn K (.ref f12) = true)
    {f13 : Addr} {od13 an13 : Option Addr} {sl13 : Array (Option Value)} {oc13 kV13 dc13 pm13 cd13 ct13 : Value}
    (a13 : PySem.W.nsIn K mainGlobals "read_band" = some (some (.ref f13))) (l13 : K.lookup f13 = some ⟨oc13, od13, .func (PySem.W.fnOf "read_band" "read_band" (defArgs s_read_band) (defBody s_read_band) (defScope s_read_band) .none kV13 dc13 pm13 an13 cd13 ct13), sl13⟩) (c13 : PySem.W.codeIn K cd13 "read_band" = true) (k13 : PySem.W.keepIn K (.ref f13) = true)
    {f14 : Addr} {od14 an14 : Option Addr} {sl14 : Array (Option Value)} {oc14 kV14 dc14 pm14 cd14 ct14 : Value}
    (a14 : PySem.W.nsIn K mainGlobals "law" = some (some (.ref f14))) (l14 : K.lookup f14 = some ⟨oc14, od14, .func (PySem.W.fnOf "law" "law" (defArgs s_law) (defBody s_law) (defScope s_law) .none kV14 dc14 pm14 an14 cd14 ct14), sl14⟩) (c14 : PySem.W.codeIn K cd14 "law" = true) (k14 : PySem.W.keepIn K (.ref f14) = true)
    (z0 : PySem.W.nsIn K mainGlobals "len" = some none)
    (z1 : PySem.W.nsIn K mainGlobals "int" = some none)
    (z2 : PySem.W.nsIn K mainGlobals "list" = some none)
    (z3 : PySem.W.nsIn K mainGlobals "range" = some none)
    (z4 : PySem.W.nsIn K mainGlobals "isinstance" = some none)
    (z5 : PySem.W.nsIn K mainGlobals "bool" = some none)
    (z6 : PySem.W.nsIn K mainGlobals "str" = some none)
    (z7 : PySem.W.nsIn K mainGlobals "tuple" = some none)
    (z8 : PySem.W.nsIn K mainGlobals "abs" = some none)
    (z9 : PySem.W.nsIn K mainGlobals "max" = some none)
    {tk0 : Tok} (gq0 : PySem.W.nsIn K mainGlobals "DIGITS" = some (some (.str "0123456789" tk0)))
    : ∃ fd : FuncData, (∀ (s : Shared) (v : Value), BindsTo s fd ⟨[v], []⟩ [("script", v)]) ∧ ∀ base : Heap, K.In base → base.Ns mainGlobals mg → FnOk l.prog w K mg base CX0 5 fa fd ["script"] (prom K 1 none sp_law) := by
  have e := hfa.symm.trans (PySem.W.mg_of X G a14)
  cases e
  have F0 := fun_mk (st := s__law_take) l0 c0 k0
  have b0 := F0.binds (ps := ["draws", "many"]) fun _ _ _ _ _ _ us hl => match us, hl with | [_, _], _ => rfl
  have F1 := fun_mk (st := s__law_raw) l1 c1 k1
  have b1 := F1.binds (ps := ["script", "draws"]) fun _ _ _ _ _ _ us hl => match us, hl with | [_, _], _ => rfl
  have F2 := fun_mk (st := s__law_draws) l2 c2 k2
  have b2 := F2.binds (ps := ["script", "many"]) fun _ _ _ _ _ _ us hl => match us, hl with | [_, _], _ => rfl
  have F3 := fun_mk (st := s__law_same) l3 c3 k3
  have b3 := F3.binds (ps := ["told", "due"]) fun _ _ _ _ _ _ us hl => match us, hl with | [_, _], _ => rfl
  have F4 := fun_mk (st := s__law_written) l4 c4 k4
  have b4 := F4.binds (ps := ["lengths", "signs"]) fun _ _ _ _ _ _ us hl => match us, hl with | [_, _], _ => rfl
  have F5 := fun_mk (st := s_write_strip) l5 c5 k5
  have b5 := F5.binds (ps := ["strip"]) fun _ _ _ _ _ _ us hl => match us, hl with | [_], _ => rfl
  have F6 := fun_mk (st := s_write_band) l6 c6 k6
  have b6 := F6.binds (ps := ["band"]) fun _ _ _ _ _ _ us hl => match us, hl with | [_], _ => rfl
  have F7 := fun_mk (st := s__law_long) l7 c7 k7
  have b7 := F7.binds (ps := ["draws", "cell"]) fun _ _ _ _ _ _ us hl => match us, hl with | [_, _], _ => rfl
  have F8 := fun_mk (st := s__law_parts) l8 c8 k8
  have b8 := F8.binds (ps := ["draws"]) fun _ _ _ _ _ _ us hl => match us, hl with | [_], _ => rfl
  have F9 := fun_mk (st := s__law_pair) l9 c9 k9
  have b9 := F9.binds (ps := ["draws", "cell", "many", "more"]) fun _ _ _ _ _ _ us hl => match us, hl with | [_, _, _, _], _ => rfl
  have F10 := fun_mk (st := s_length_end) l10 c10 k10
  have b10 := F10.binds (ps := ["text", "at"]) fun _ _ _ _ _ _ us hl => match us, hl with | [_, _], _ => rfl
  have F11 := fun_mk (st := s_is_sign) l11 c11 k11
  have b11 := F11.binds (ps := ["text", "at"]) fun _ _ _ _ _ _ us hl => match us, hl with | [_, _], _ => rfl
  have F12 := fun_mk (st := s_read_strip) l12 c12 k12
  have b12 := F12.binds (ps := ["text"]) fun _ _ _ _ _ _ us hl => match us, hl with | [_], _ => rfl
  have F13 := fun_mk (st := s_read_band) l13 c13 k13
  have b13 := F13.binds (ps := ["text"]) fun _ _ _ _ _ _ us hl => match us, hl with | [_], _ => rfl
  have F14 := fun_mk (st := s_law) l14 c14 k14
  have b14 := F14.binds (ps := ["script"]) fun _ _ _ _ _ _ us hl => match us, hl with | [_], _ => rfl
  refine ⟨PySem.W.fnOf "law" "law" (defArgs s_law) (defBody s_law) (defScope s_law) .none kV14 dc14 pm14 an14 cd14 ct14, fun s v => .of_eq rfl, fun base _ _ => ?_⟩
  have h__law_take := ok_take (P := l.prog) (w := w) (base := base) F0 (PySem.W.mg_of X G a0) b0 (PySem.W.mg_none_of X G z0) (PySem.W.mg_none_of X G z1) 
  have h__law_raw := ok_raw (P := l.prog) (w := w) (base := base) F1 (PySem.W.mg_of X G a1) b1 (PySem.W.mg_none_of X G z0) (PySem.W.mg_none_of X G z1) h__law_take 
  have h__law_draws := ok_draws (P := l.prog) (w := w) (base := base) F2 (PySem.W.mg_of X G a2) b2 (PySem.W.mg_none_of X G z0) (PySem.W.mg_none_of X G z1) (PySem.W.mg_none_of X G z2) (PySem.W.mg_none_of X G z3) 
  have h__law_same := ok_same (P := l.prog) (w := w) (base := base) F3 (PySem.W.mg_of X G a3) b3 (PySem.W.mg_none_of X G z4) (PySem.W.mg_none_of X G z5) (PySem.W.mg_none_of X G z1) (PySem.W.mg_none_of X G z6) (PySem.W.mg_none_of X G z7) (PySem.W.mg_none_of X G z0) (PySem.W.mg_none_of X G z3) 2
  have h__law_written := ok_written (P := l.prog) (w := w) (base := base) F4 (PySem.W.mg_of X G a4) b4 (PySem.W.mg_none_of X G z0) (PySem.W.mg_none_of X G z6) (PySem.W.mg_none_of X G z3) 
  have h_write_strip := ok_wstrip (P := l.prog) (w := w) (base := base) F5 (PySem.W.mg_of X G a5) b5 (PySem.W.mg_none_of X G z0) (PySem.W.mg_none_of X G z6) (PySem.W.mg_none_of X G z3) 
  have h_write_band := ok_wband (P := l.prog) (w := w) (base := base) F6 (PySem.W.mg_of X G a6) b6 h_write_strip 
  have h__law_long := ok_long (P := l.prog) (w := w) (base := base) F7 (PySem.W.mg_of X G a7) b7 (PySem.W.mg_none_of X G z1) (PySem.W.mg_none_of X G z8) h__law_take 
  have h__law_parts := ok_parts (P := l.prog) (w := w) (base := base) F8 (PySem.W.mg_of X G a8) b8 h__law_take 
  have h__law_pair := ok_pair (P := l.prog) (w := w) (base := base) F9 (PySem.W.mg_of X G a9) b9 (PySem.W.mg_none_of X G z1) (PySem.W.mg_none_of X G z7) (PySem.W.mg_none_of X G z3) h__law_take h__law_long 
  have h_length_end := ok_le (P := l.prog) (w := w) (base := base) F10 (PySem.W.mg_of X G a10) b10 (PySem.W.mg_none_of X G z0) ⟨_, PySem.W.mg_of X G gq0, _, rfl⟩ 
  have h_is_sign := ok_sign (P := l.prog) (w := w) (base := base) F11 (PySem.W.mg_of X G a11) b11  
  have h_read_strip := ok_rstrip (P := l.prog) (w := w) (base := base) F12 (PySem.W.mg_of X G a12) b12 (PySem.W.mg_none_of X G z0) (PySem.W.mg_none_of X G z1) (PySem.W.mg_none_of X G z7) h_length_end h_is_sign 
  have h_read_band := ok_rband (P := l.prog) (w := w) (base := base) F13 (PySem.W.mg_of X G a13) b13 (PySem.W.mg_none_of X G z0) (PySem.W.mg_none_of X G z1) (PySem.W.mg_none_of X G z7) h_length_end h_is_sign 
  exact ok_law F14 (PySem.W.mg_of X G a14) b14 (PySem.W.mg_none_of X G z1) (PySem.W.mg_none_of X G z9) h__law_take h__law_raw h__law_draws h__law_same h__law_pair h__law_parts h__law_written h_write_strip h_write_band h_read_strip h_read_band
end Law
open PySem PySem.W PyProof.Rows
set_option maxHeartbeats 0 in
theorem PySem.Challenge.cw_creasehold_k65_texts_of_strips_and_bands_holds : PySem.Challenge.rw_creasehold_k65_texts_of_strips_and_bands.Holds := by
  w_on; o_law; k_head; (case hw => w_witness2)
  k_fill
  refine L2.walk_of (l := PySem.Challenge.rw_creasehold_k65_texts_of_strips_and_bands) (n := 63) (k := 5) (x := "script") (CX := fun _ => L2.CX0) (sp := fun w => L3.prom _ 1 none Law.sp_law) rfl (by decide) rfl ⟨rfl, by decide, by decide⟩ (fun w h Y => PySem.W.kIn_of Y) ?F (fun _ _ a ns hl hO hS => L3.prom_law hO hS ⟨ns, hl, rfl, rfl⟩) (fun _ _ _ _ _ h => h)
  case F =>
    intro w mg fa h KX G hmg
    refine' Law.all_mk KX G hmg ?a0 ?l0 ?c0 ?k0 ?a1 ?l1 ?c1 ?k1 ?a2 ?l2 ?c2 ?k2 ?a3 ?l3 ?c3 ?k3 ?a4 ?l4 ?c4 ?k4 ?a5 ?l5 ?c5 ?k5 ?a6 ?l6 ?c6 ?k6 ?a7 ?l7 ?c7 ?k7 ?a8 ?l8 ?c8 ?k8 ?a9 ?l9 ?c9 ?k9 ?a10 ?l10 ?c10 ?k10 ?a11 ?l11 ?c11 ?k11 ?a12 ?l12 ?c12 ?k12 ?a13 ?l13 ?c13 ?k13 ?a14 ?l14 ?c14 ?k14 ?z0 ?z1 ?z2 ?z3 ?z4 ?z5 ?z6 ?z7 ?z8 ?z9 ?gq0
    (case a0 => k_is); (case l0 => k_is); (case c0 => k_is); (case k0 => k_is); (case a1 => k_is); (case l1 => k_is); (case c1 => k_is); (case k1 => k_is); (case a2 => k_is); (case l2 => k_is); (case c2 => k_is); (case k2 => k_is); (case a3 => k_is); (case l3 => k_is); (case c3 => k_is); (case k3 => k_is); (case a4 => k_is); (case l4 => k_is); (case c4 => k_is); (case k4 => k_is); (case a5 => k_is); (case l5 => k_is); (case c5 => k_is); (case k5 => k_is); (case a6 => k_is); (case l6 => k_is); (case c6 => k_is); (case k6 => k_is); (case a7 => k_is); (case l7 => k_is); (case c7 => k_is); (case k7 => k_is); (case a8 => k_is); (case l8 => k_is); (case c8 => k_is); (case k8 => k_is); (case a9 => k_is); (case l9 => k_is); (case c9 => k_is); (case k9 => k_is); (case a10 => k_is); (case l10 => k_is); (case c10 => k_is); (case k10 => k_is); (case a11 => k_is); (case l11 => k_is); (case c11 => k_is); (case k11 => k_is); (case a12 => k_is); (case l12 => k_is); (case c12 => k_is); (case k12 => k_is); (case a13 => k_is); (case l13 => k_is); (case c13 => k_is); (case k13 => k_is); (case a14 => k_is); (case l14 => k_is); (case c14 => k_is); (case k14 => k_is); (case z0 => k_is); (case z1 => k_is); (case z2 => k_is); (case z3 => k_is); (case z4 => k_is); (case z5 => k_is); (case z6 => k_is); (case z7 => k_is); (case z8 => k_is); (case z9 => k_is); (case gq0 => k_is)
