import PyProof.Rows.All
import Wide.All
import OpenK.AllK
import Wide.FinOn
import HandS.ForMost
import HandS.ForExc
import HandS.ExcCtx
import HandS.HotCalls
import HandS.ExcIs
import HandS.IsInst
import HandS.SetFor
import HandS.SortInts
import HandS.Wide
import HandS.Conv
import HandS.Style
import HandS.More
import HandS.Zip
import HandS.Deep
import HandS.Flt
import KE.LtData
import KE.SortData
import HandS.Text
import KE.GoesRaise
import PyProof.StrBlock2
import PySem.Challenge.RW_fourtell_k14_read_or_refused
set_option Elab.async false
set_option linter.all false
set_option maxRecDepth 100000
set_option maxHeartbeats 4000000
namespace DL
open PySem PySem.Spec PyProof.Rows L2
abbrev St := L2.St
abbrev Frag := PySem.W.Frag

mutual
inductive Rp (F : Hp) : V → PyData → Prop
  | non : Rp F .non .none
  | bl (b : Bool) : Rp F (.bl b) (.bool b)
  | int (i : Int) : Rp F (.int i) (.int i)
  | str (x : Str) : Rp F (.str x) (.str x)
  | lst {a : Addr} {xs : List V} {ds : List PyData} : F a = some (.lst xs) → RpAll F xs ds → Rp F (.ref a) (.list ds)
  | tup {a : Addr} {xs : List V} {ds : List PyData} : F a = some (.tup xs) → RpAll F xs ds → Rp F (.ref a) (.tuple ds)
inductive RpAll (F : Hp) : List V → List PyData → Prop
  | nil : RpAll F [] []
  | cons {v : V} {vs : List V} {d : PyData} {ds : List PyData} : Rp F v d → RpAll F vs ds → RpAll F (v :: vs) (d :: ds)
end
mutual
theorem dp_mono {F F' : Hp} (e : Same F F') : ∀ {v : V} {d : PyData}, Rp F v d → Rp F' v d
  | _, _, .non => .non
  | _, _, .bl b => .bl b
  | _, _, .int i => .int i
  | _, _, .str x => .str x
  | _, _, .lst h a => .lst (e _ _ h) (dps_mono e a)
  | _, _, .tup h a => .tup (e _ _ h) (dps_mono e a)
theorem dps_mono {F F' : Hp} (e : Same F F') : ∀ {vs : List V} {ds : List PyData}, RpAll F vs ds → RpAll F' vs ds
  | _, _, .nil => .nil
  | _, _, .cons h t => .cons (dp_mono e h) (dps_mono e t)
end
mutual
theorem dp_dp {K : Frag} {F : Hp} : ∀ {v : V} {d : PyData}, Rp F v d → Dp K F v d
  | _, _, .non => .non
  | _, _, .bl b => .bl b
  | _, _, .int i => .int i
  | _, _, .str x => .str x
  | _, _, .lst h a => .lst (.of h) (dps_dps a)
  | _, _, .tup h a => .tup (.of h) (dps_dps a)
theorem dps_dps {K : Frag} {F : Hp} : ∀ {vs : List V} {ds : List PyData}, RpAll F vs ds → DpAll K F vs ds
  | _, _, .nil => .nil
  | _, _, .cons h t => .cons (dp_dp h) (dps_dps t)
end
theorem dps_len {F : Hp} : ∀ {vs : List V} {ds : List PyData}, RpAll F vs ds → vs.length = ds.length
  | _, _, .nil => rfl
  | _, _, .cons _ t => congrArg (· + 1) (dps_len t)
theorem dps_get {F : Hp} : ∀ {vs : List V} {ds : List PyData} {i : Nat} {d : PyData}, RpAll F vs ds → ds[i]? = some d → ∃ v, vs[i]? = some v ∧ Rp F v d
  | _, _, _, _, .nil, h => by simp at h
  | _, _, 0, _, .cons (v := v) h t, e => by simp at e; subst e; exact ⟨v, rfl, h⟩
  | _, _, i + 1, d, .cons h t, e => by
    obtain ⟨v, h1, h2⟩ := dps_get (i := i) (d := d) t (by simpa using e)
    exact ⟨v, by simpa using h1, h2⟩
theorem dps_get' {F : Hp} : ∀ {vs : List V} {ds : List PyData} {i : Nat} {v : V}, RpAll F vs ds → vs[i]? = some v → ∃ d, ds[i]? = some d ∧ Rp F v d
  | _, _, _, _, .nil, h => by simp at h
  | _, _, 0, _, .cons (d := d) h t, e => by simp at e; subst e; exact ⟨d, rfl, h⟩
  | _, _, i + 1, v, .cons h t, e => by
    obtain ⟨d, h1, h2⟩ := dps_get' (i := i) (v := v) t (by simpa using e)
    exact ⟨d, by simpa using h1, h2⟩
theorem dps_app {F : Hp} : ∀ {vs ws : List V} {ds es : List PyData}, RpAll F vs ds → RpAll F ws es → RpAll F (vs ++ ws) (ds ++ es)
  | _, _, _, _, .nil, s => s
  | _, _, _, _, .cons h t, s => .cons h (dps_app t s)
theorem dps_drop {F : Hp} : ∀ (n : Nat) {vs : List V} {ds : List PyData}, RpAll F vs ds → RpAll F (vs.drop n) (ds.drop n)
  | 0, _, _, h => h
  | _ + 1, _, _, .nil => .nil
  | n + 1, _, _, .cons _ t => dps_drop n t
theorem dps_take {F : Hp} : ∀ (n : Nat) {vs : List V} {ds : List PyData}, RpAll F vs ds → RpAll F (vs.take n) (ds.take n)
  | 0, _, _, _ => .nil
  | _ + 1, _, _, .nil => .nil
  | n + 1, _, _, .cons h t => .cons h (dps_take n t)
theorem dps_erase {F : Hp} : ∀ (n : Nat) {vs : List V} {ds : List PyData}, RpAll F vs ds → RpAll F (vs.eraseIdx n) (ds.eraseIdx n)
  | _, _, _, .nil => .nil
  | 0, _, _, .cons _ t => t
  | n + 1, _, _, .cons h t => .cons h (dps_erase n t)
theorem dps_set {F : Hp} {v : V} {d : PyData} (hv : Rp F v d) : ∀ (n : Nat) {vs : List V} {ds : List PyData}, RpAll F vs ds → RpAll F (vs.set n v) (ds.set n d)
  | _, _, _, .nil => .nil
  | 0, _, _, .cons _ t => .cons hv t
  | n + 1, _, _, .cons h t => .cons h (dps_set hv n t)
theorem dps_rev {F : Hp} : ∀ {vs : List V} {ds : List PyData}, RpAll F vs ds → RpAll F vs.reverse ds.reverse
  | _, _, .nil => .nil
  | _, _, .cons h t => by
    rw [List.reverse_cons, List.reverse_cons]
    exact dps_app (dps_rev t) (.cons h .nil)
abbrev LI (ns : List Int) : List PyData := ns.map PyData.int
theorem dp_int {F : Hp} {v : V} {i : Int} (h : Rp F v (.int i)) : v = .int i := by cases h; rfl
theorem dp_bl {F : Hp} {v : V} {i : Bool} (h : Rp F v (.bool i)) : v = .bl i := by cases h; rfl
theorem dp_str {F : Hp} {v : V} {i : Str} (h : Rp F v (.str i)) : v = .str i := by cases h; rfl
theorem dp_non {F : Hp} {v : V} (h : Rp F v .none) : v = .non := by cases h; rfl
theorem dps_ints {F : Hp} : ∀ {vs : List V} {ns : List Int}, RpAll F vs (LI ns) → vs = ns.map V.int
  | _, [], h => by cases h; rfl
  | _, n :: ns, h => by
    cases h with
    | cons h t => rw [dp_int h, dps_ints t]; rfl
theorem ints_dps {F : Hp} : ∀ (ns : List Int), RpAll F (ns.map V.int) (LI ns)
  | [] => .nil
  | n :: ns => .cons (.int n) (ints_dps ns)
def flat : PyData → Bool
  | .none => true
  | .bool _ => true
  | .int _ => true
  | .str _ => true
  | _ => false
theorem dp_flat {F F' : Hp} {v : V} {d : PyData} (hf : flat d = true) (h : Rp F v d) : Rp F' v d := by
  cases h with
  | non => exact .non
  | bl b => exact .bl b
  | int i => exact .int i
  | str x => exact .str x
  | lst _ _ => cases hf
  | tup _ _ => cases hf
theorem dps_flat {F F' : Hp} : ∀ {vs : List V} {ds : List PyData}, (∀ d ∈ ds, flat d = true) → RpAll F vs ds → RpAll F' vs ds
  | _, _, _, .nil => .nil
  | _, _, hf, .cons h t => .cons (dp_flat (hf _ List.mem_cons_self) h) (dps_flat (fun d hd => hf d (List.mem_cons_of_mem _ hd)) t)
theorem flatV_of {F : Hp} {v : V} {d : PyData} (hf : flat d = true) (h : Rp F v d) : flatV v = true := by
  cases h with
  | non => rfl
  | bl b => rfl
  | int i => rfl
  | str x => rfl
  | lst _ _ => cases hf
  | tup _ _ => cases hf

inductive Sl where
  | u | d (x : PyData) | f (x : PyData) | o (xs : List PyData) | t (kvs : List (List Key × PyData)) | v (w : V) | q (ns : List Int)
abbrev Cell := Sl × Option V
def adr : Cell → Option Addr
  | (.o _, some (.ref p)) => some p
  | (.t _, some (.ref p)) => some p
  | _ => none
def cut (Ho F : Hp) : Hp := fun b => if Ho b = none then F b else none
theorem cut_le {Ho F : Hp} : Same (cut Ho F) F := fun b o h => by
  unfold cut at h
  by_cases e : Ho b = none
  · rw [if_pos e] at h; exact h
  · rw [if_neg e] at h; cases h
theorem cut_mono {Ho Ho' F F' : Hp} (h : Same Ho Ho') (e : Same F F') : Same (cut Ho' F) (cut Ho F') := fun b o q => by
  unfold cut at q ⊢
  by_cases z : Ho' b = none
  · rw [if_pos z] at q
    have z2 : Ho b = none := h.free z
    rw [if_pos z2]; exact e b o q
  · rw [if_neg z] at q; cases q
def Cok (K : Frag) (Ho F H : Hp) (c : Cell) : Prop := match c.1 with
  | .u => True
  | .d x => ∃ w, c.2 = some w ∧ Rp F w x
  | .f x => ∃ w, c.2 = some w ∧ Rp (cut Ho F) w x
  | .o xs => ∃ p vs, c.2 = some (.ref p) ∧ H p = some (.lst vs) ∧ RpAll F vs xs
  | .t kvs => ∃ p ws, c.2 = some (.ref p) ∧ H p = some (.dT ws) ∧ Paired (fun (a : List Key × PyData) (b : List Key × V) => b.1 = a.1 ∧ Rp F b.2 a.2) kvs ws
  | .v w => c.2 = some w
  | .q ns => ∃ a, c.2 = some (.ref a) ∧ SqL K F a (ns.map V.int)
structure EnvF (K : Frag) (Ho Fo F H : Hp) (L : List Cell) : Prop where
  sH : Same Ho H
  sF : Same Fo F
  inn : Same F H
  nw : ∀ b o, F b = some o → Fo b = some o ∨ Ho b = none
  ok : ∀ c ∈ L, Cok K Ho F H c
  nd : (L.filterMap adr).Nodup
  no : ∀ p ∈ L.filterMap adr, F p = none ∧ Ho p = none
def Env (K : Frag) (Ho Fo : Hp) (L : List Cell) (H : Hp) : Prop := ∃ F, EnvF K Ho Fo F H L

theorem cok_adr {K : Frag} {Ho F H : Hp} {c : Cell} {p : Addr} (h : Cok K Ho F H c) (e : adr c = some p) : c.2 = some (.ref p) ∧ ∃ o, H p = some o := by
  obtain ⟨s, v⟩ := c
  cases s with
  | u => cases e
  | d x => cases e
  | f x => cases e
  | v x => cases e
  | q x => cases e
  | o xs =>
    obtain ⟨q, vs, h1, h2, h3⟩ := h
    simp only at h1
    subst h1
    simp only [adr, Option.some.injEq] at e
    subst e
    exact ⟨rfl, _, h2⟩
  | t xs =>
    obtain ⟨q, vs, h1, h2, h3⟩ := h
    simp only at h1
    subst h1
    simp only [adr, Option.some.injEq] at e
    subst e
    exact ⟨rfl, _, h2⟩
section
variable {K : Frag} {Ho Fo F F' H H' : Hp} {L L' : List Cell} {c : Cell}
theorem EnvF.at (E : EnvF K Ho Fo F H L) {p : Addr} (h : p ∈ L.filterMap adr) : ∃ o, H p = some o := by
  obtain ⟨c, hc, e⟩ := List.mem_filterMap.mp h
  exact (cok_adr (E.ok c hc) e).2
theorem EnvF.step (E : EnvF K Ho Fo F H L) (sH : Same H H') (sF : Same F F') (inn : Same F' H') (nw : ∀ b o, F' b = some o → F b = some o ∨ H b = none) : EnvF K Ho Fo F' H' L := by
  refine ⟨E.sH.trans sH, E.sF.trans sF, inn, fun b o e => ?_, fun c hc => ?_, E.nd, fun p hp => ⟨?_, (E.no p hp).2⟩⟩
  · rcases nw b o e with z | z
    · exact E.nw b o z
    · exact .inr (E.sH.free z)
  · have q := E.ok c hc
    obtain ⟨s, v⟩ := c
    cases s with
    | u => trivial
    | d x => obtain ⟨w, h1, h2⟩ := q; exact ⟨w, h1, dp_mono sF h2⟩
    | f x => obtain ⟨w, h1, h2⟩ := q; exact ⟨w, h1, dp_mono (cut_mono (Same.refl _) sF) h2⟩
    | v x => exact q
    | q x => obtain ⟨p, h1, h2⟩ := q; exact ⟨p, h1, sF.seq h2⟩
    | o xs => obtain ⟨p, vs, h1, h2, h3⟩ := q; exact ⟨p, vs, h1, sH _ _ h2, dps_mono sF h3⟩
    | t xs => obtain ⟨p, vs, h1, h2, h3⟩ := q; exact ⟨p, vs, h1, sH _ _ h2, Paired.mapP h3 fun a b z => ⟨z.1, dp_mono sF z.2⟩⟩
  · obtain ⟨o, ho⟩ := E.at hp
    cases z : F' p with
    | none => rfl
    | some u =>
      rcases nw p u z with z' | z'
      · rw [(E.no p hp).1] at z'; cases z'
      · rw [ho] at z'; cases z'
theorem EnvF.cons (E : EnvF K Ho Fo F H L) (hc : Cok K Ho F H c) (ha : ∀ p, adr c = some p → p ∉ L.filterMap adr ∧ F p = none ∧ Ho p = none) : EnvF K Ho Fo F H (c :: L) := by
  refine ⟨E.sH, E.sF, E.inn, E.nw, fun x hx => ?_, ?_, fun p hp => ?_⟩
  · rcases List.mem_cons.mp hx with rfl | hx
    · exact hc
    · exact E.ok x hx
  · cases e : adr c with
    | none => rw [List.filterMap_cons_none e]; exact E.nd
    | some p => rw [List.filterMap_cons_some e]; exact List.nodup_cons.mpr ⟨(ha p e).1, E.nd⟩
  · cases e : adr c with
    | none => rw [List.filterMap_cons_none e] at hp; exact E.no p hp
    | some q =>
      rw [List.filterMap_cons_some e] at hp
      rcases List.mem_cons.mp hp with rfl | hp
      · exact (ha _ e).2
      · exact E.no p hp
theorem EnvF.consN (E : EnvF K Ho Fo F H L) (hc : Cok K Ho F H c) (ha : adr c = none) : EnvF K Ho Fo F H (c :: L) :=
  E.cons hc fun p e => by rw [ha] at e; cases e
theorem EnvF.sub (E : EnvF K Ho Fo F H L) (h : L'.Sublist L) : EnvF K Ho Fo F H L' :=
  ⟨E.sH, E.sF, E.inn, E.nw, fun c hc => E.ok c (h.subset hc), E.nd.sublist (h.filterMap adr), fun p hp => E.no p ((h.filterMap adr).subset hp)⟩
theorem EnvF.perm (E : EnvF K Ho Fo F H L) (h : L.Perm L') : EnvF K Ho Fo F H L' :=
  ⟨E.sH, E.sF, E.inn, E.nw, fun c hc => E.ok c (h.mem_iff.mpr hc), (h.filterMap adr).nodup_iff.mp E.nd, fun p hp => E.no p ((h.filterMap adr).mem_iff.mpr hp)⟩
theorem EnvF.tail (E : EnvF K Ho Fo F H (c :: L)) : EnvF K Ho Fo F H L := E.sub (List.sublist_cons_self c L)
theorem Env.perm (E : Env K Ho Fo L H) (h : L.Perm L') : Env K Ho Fo L' H := let ⟨F, e⟩ := E; ⟨F, e.perm h⟩
theorem Env.sub (E : Env K Ho Fo L H) (h : L'.Sublist L) : Env K Ho Fo L' H := let ⟨F, e⟩ := E; ⟨F, e.sub h⟩
theorem Env.tail (E : Env K Ho Fo (c :: L) H) : Env K Ho Fo L H := let ⟨F, e⟩ := E; ⟨F, e.tail⟩
theorem EnvF.new {p : Addr} {o : HO} (E : EnvF K Ho Fo F H L) (hp : H p = none) : EnvF K Ho Fo F (upd H p o) L :=
  E.step (fun b u e => by rw [upd_ne (ne_of_none e hp)]; exact e) (Same.refl _) (fun b u e => by rw [upd_ne (ne_of_none (E.inn _ _ e) hp)]; exact E.inn _ _ e) fun b u e => .inl e
theorem EnvF.lay {p : Addr} {o : HO} (E : EnvF K Ho Fo F H L) (hp : H p = none) : EnvF K Ho Fo (upd F p o) (upd H p o) L := by
  have hF : F p = none := E.inn.free hp
  refine E.step (fun b u e => by rw [upd_ne (ne_of_none e hp)]; exact e) (fun b u e => by rw [upd_ne (ne_of_none e hF)]; exact e) (fun b u e => ?_) fun b u e => ?_
  · by_cases z : b = p
    · subst z; rw [upd_same] at e ⊢; exact e
    · rw [upd_ne z] at e ⊢; exact E.inn _ _ e
  · by_cases z : b = p
    · subst z; exact .inr hp
    · rw [upd_ne z] at e; exact .inl e
theorem Env.flat {x : PyData} {w : V} (E : Env K Ho Fo L H) (h : Rp H w x) (hf : flat x = true) : Env K Ho Fo ((.d x, some w) :: L) H := by
  obtain ⟨F, e⟩ := E
  exact ⟨F, e.consN ⟨w, rfl, dp_flat hf h⟩ rfl⟩
theorem Env.int (E : Env K Ho Fo L H) (i : Int) : Env K Ho Fo ((.d (.int i), some (.int i)) :: L) H := E.flat (.int i) rfl
theorem Env.bl (E : Env K Ho Fo L H) (i : Bool) : Env K Ho Fo ((.d (.bool i), some (.bl i)) :: L) H := E.flat (.bl i) rfl
theorem Env.str (E : Env K Ho Fo L H) (i : Str) : Env K Ho Fo ((.d (.str i), some (.str i)) :: L) H := E.flat (.str i) rfl
theorem Env.non (E : Env K Ho Fo L H) : Env K Ho Fo ((.d .none, some .non) :: L) H := E.flat .non rfl
theorem Env.raw (E : Env K Ho Fo L H) (w : V) : Env K Ho Fo ((.v w, some w) :: L) H := by
  obtain ⟨F, e⟩ := E
  exact ⟨F, e.consN rfl rfl⟩
theorem Env.dup {x : PyData} {w : V} (E : Env K Ho Fo L H) (h : (Sl.d x, some w) ∈ L) : Env K Ho Fo ((.d x, some w) :: L) H := by
  obtain ⟨F, e⟩ := E
  exact ⟨F, e.consN (e.ok _ h) rfl⟩
theorem Env.toD {x : PyData} {w : V} (E : Env K Ho Fo ((.f x, some w) :: L) H) : Env K Ho Fo ((.d x, some w) :: L) H := by
  obtain ⟨F, e⟩ := E
  obtain ⟨w', h1, h2⟩ := e.ok _ List.mem_cons_self
  cases h1
  exact ⟨F, e.tail.consN ⟨w, rfl, dp_mono cut_le h2⟩ rfl⟩
theorem Env.toF {x : PyData} {w : V} (E : Env K Ho Fo ((.d x, some w) :: L) H) (hf : DL.flat x = true) : Env K Ho Fo ((.f x, some w) :: L) H := by
  obtain ⟨F, e⟩ := E
  obtain ⟨w', h1, h2⟩ := e.ok _ List.mem_cons_self
  cases h1
  exact ⟨F, e.tail.consN ⟨w, rfl, dp_flat hf h2⟩ rfl⟩
theorem Env.fget {x : PyData} {w : Option V} (E : Env K Ho Fo L H) (h : (Sl.d x, w) ∈ L) : ∃ v, w = some v ∧ Rp H v x := by
  obtain ⟨F, e⟩ := E
  obtain ⟨w', h1, h2⟩ := e.ok _ h
  exact ⟨w', h1, dp_mono e.inn h2⟩
theorem fm_o {xs : List PyData} {p : Addr} : (((Sl.o xs, some (V.ref p)) : Cell) :: L).filterMap adr = p :: L.filterMap adr := List.filterMap_cons_some rfl
theorem fm_t {xs : List (List Key × PyData)} {p : Addr} : (((Sl.t xs, some (V.ref p)) : Cell) :: L).filterMap adr = p :: L.filterMap adr := List.filterMap_cons_some rfl
theorem EnvF.take {p : Addr} {o : HO} (t : EnvF K Ho Fo F H L) (h2 : H p = some o) (hp : F p = none ∧ Ho p = none) (hn : p ∉ L.filterMap adr) : EnvF K Ho Fo (upd F p o) H L := by
  have sF : Same F (upd F p o) := fun b u q => by rw [upd_ne (ne_of_none q hp.1)]; exact q
  refine ⟨t.sH, t.sF.trans sF, fun b u q => ?_, fun b u q => ?_, fun c hc => ?_, t.nd, fun q hq => ⟨?_, (t.no q hq).2⟩⟩
  · by_cases z : b = p
    · subst z; rw [upd_same] at q; rw [h2]; exact q
    · rw [upd_ne z] at q; exact t.inn _ _ q
  · by_cases z : b = p
    · subst z; exact .inr hp.2
    · rw [upd_ne z] at q; exact t.nw _ _ q
  · have q := t.ok c hc
    obtain ⟨s, v⟩ := c
    cases s with
    | u => trivial
    | d x => obtain ⟨w, h1, h2⟩ := q; exact ⟨w, h1, dp_mono sF h2⟩
    | f x => obtain ⟨w, h1, h2⟩ := q; exact ⟨w, h1, dp_mono (cut_mono (Same.refl _) sF) h2⟩
    | v x => exact q
    | q x => obtain ⟨p, h1, h2⟩ := q; exact ⟨p, h1, sF.seq h2⟩
    | o xs => obtain ⟨p, vs, h1, h2, h3⟩ := q; exact ⟨p, vs, h1, h2, dps_mono sF h3⟩
    | t xs => obtain ⟨p, vs, h1, h2, h3⟩ := q; exact ⟨p, vs, h1, h2, Paired.mapP h3 fun a b z => ⟨z.1, dp_mono sF z.2⟩⟩
  · rw [upd_ne (fun z : q = p => hn (by rw [← z]; exact hq))]
    exact (t.no q hq).1
theorem EnvF.own {xs : List PyData} {p : Addr} (e : EnvF K Ho Fo F H ((.o xs, some (.ref p)) :: L)) : (F p = none ∧ Ho p = none) ∧ p ∉ L.filterMap adr := by
  refine ⟨e.no p (by rw [fm_o]; exact List.mem_cons_self), ?_⟩
  have := e.nd
  rw [fm_o] at this
  exact (List.nodup_cons.mp this).1
theorem Env.freezeF {xs : List PyData} {w : V} (E : Env K Ho Fo ((.o xs, some w) :: L) H) (hx : ∀ d ∈ xs, DL.flat d = true) : Env K Ho Fo ((.f (.list xs), some w) :: L) H := by
  obtain ⟨F, e⟩ := E
  obtain ⟨p, vs, h1, h2, h3⟩ := e.ok _ List.mem_cons_self
  simp only [Option.some.injEq] at h1
  subst h1
  obtain ⟨hp, hn⟩ := e.own
  refine ⟨upd F p (.lst vs), (e.tail.take h2 hp hn).consN ⟨.ref p, rfl, .lst ?_ (dps_flat hx h3)⟩ rfl⟩
  unfold cut
  rw [if_pos hp.2, upd_same]
theorem Env.freeze {xs : List PyData} {w : V} (E : Env K Ho Fo ((.o xs, some w) :: L) H) : Env K Ho Fo ((.d (.list xs), some w) :: L) H := by
  obtain ⟨F, e⟩ := E
  obtain ⟨p, vs, h1, h2, h3⟩ := e.ok _ List.mem_cons_self
  simp only [Option.some.injEq] at h1
  subst h1
  obtain ⟨hp, hn⟩ := e.own
  have sF : Same F (upd F p (.lst vs)) := fun b u q => by rw [upd_ne (ne_of_none q hp.1)]; exact q
  exact ⟨upd F p (.lst vs), (e.tail.take h2 hp hn).consN ⟨.ref p, rfl, .lst upd_same (dps_mono sF h3)⟩ rfl⟩
theorem Env.newL {p : Addr} {vs : List V} {xs : List PyData} (E : Env K Ho Fo L H) (hp : H p = none) (h : ∀ F, EnvF K Ho Fo F H L → RpAll F vs xs) : Env K Ho Fo ((.o xs, some (.ref p)) :: L) (upd H p (.lst vs)) := by
  obtain ⟨F, e⟩ := E
  refine ⟨F, (e.new hp).cons ⟨p, vs, rfl, upd_same, h F e⟩ fun q hq => ?_⟩
  have eq : p = q := Option.some.inj hq
  subst eq
  refine ⟨fun hm => ?_, e.inn.free hp, e.sH.free hp⟩
  obtain ⟨o, ho⟩ := e.at hm
  rw [hp] at ho; cases ho
theorem Env.newT {p : Addr} {vs : List V} {xs : List PyData} (E : Env K Ho Fo L H) (hp : H p = none) (h : ∀ F, EnvF K Ho Fo F H L → RpAll F vs xs) : Env K Ho Fo ((.d (.tuple xs), some (.ref p)) :: L) (upd H p (.tup vs)) := by
  obtain ⟨F, e⟩ := E
  have hF : F p = none := e.inn.free hp
  refine ⟨upd F p (.tup vs), (e.lay hp).consN ⟨.ref p, rfl, .tup upd_same (dps_mono (fun b u q => ?_) (h F e))⟩ rfl⟩
  rw [upd_ne (ne_of_none q hF)]; exact q
theorem EnvF.mutF {p : Addr} {vs' : List V} {xs xs' : List PyData} (e : EnvF K Ho Fo F H ((.o xs, some (.ref p)) :: L)) (h4 : RpAll F vs' xs') :
    EnvF K Ho Fo F (upd H p (.lst vs')) ((.o xs', some (.ref p)) :: L) := by
  obtain ⟨hp, hn⟩ := e.own
  have t := e.tail
  have e2 : EnvF K Ho Fo F (upd H p (.lst vs')) L := by
    refine ⟨fun b u q => ?_, t.sF, fun b u q => ?_, t.nw, fun c hc => ?_, t.nd, t.no⟩
    · rw [upd_ne (ne_of_none q hp.2)]; exact t.sH _ _ q
    · rw [upd_ne (ne_of_none q hp.1)]; exact t.inn _ _ q
    · have q := t.ok c hc
      have na : ∀ b, adr c = some b → b ≠ p := fun b z y => hn (y ▸ List.mem_filterMap.mpr ⟨c, hc, z⟩)
      obtain ⟨s, v⟩ := c
      cases s with
      | u => trivial
      | d x => exact q
      | f x => exact q
      | v x => exact q
      | q x => exact q
      | o xs =>
        obtain ⟨p', vs, h1, h2, h3⟩ := q
        simp only at h1
        subst h1
        exact ⟨p', vs, rfl, by rw [upd_ne (na p' rfl)]; exact h2, h3⟩
      | t xs =>
        obtain ⟨p', vs, h1, h2, h3⟩ := q
        simp only at h1
        subst h1
        exact ⟨p', vs, rfl, by rw [upd_ne (na p' rfl)]; exact h2, h3⟩
  refine e2.cons ⟨p, vs', rfl, upd_same, h4⟩ fun q hq => ?_
  have eq : p = q := Option.some.inj hq
  subst eq
  exact ⟨hn, hp⟩
end

def cells : List Sl → St → List Cell
  | s :: ρ, v :: σ => (s, v) :: cells ρ σ
  | _, _ => []
theorem cells_at : ∀ {ρ : List Sl} {σ : St} {i : Nat} {s : Sl}, σ.length = ρ.length → ρ[i]? = some s → ∃ v, σ[i]? = some v ∧ (s, v) ∈ cells ρ σ
  | [], _, _, _, _, h => by simp at h
  | _ :: _, [], _, _, hl, _ => by simp at hl
  | r :: ρ, w :: σ, 0, s, _, h => by
    simp at h; subst h
    exact ⟨w, rfl, List.mem_cons_self⟩
  | r :: ρ, w :: σ, i + 1, s, hl, h => by
    obtain ⟨v, h1, h2⟩ := cells_at (ρ := ρ) (σ := σ) (i := i) (s := s) (by simpa using hl) (by simpa using h)
    exact ⟨v, by simpa using h1, List.mem_cons_of_mem _ h2⟩
theorem cells_set : ∀ {ρ : List Sl} {σ : St} {i : Nat} (s : Sl) (v : Option V), σ.length = ρ.length → i < ρ.length → ∃ M, M.Sublist (cells ρ σ) ∧ (cells (ρ.set i s) (σ.set i v)).Perm ((s, v) :: M)
  | [], _, _, _, _, _, h => by simp at h
  | _ :: _, [], _, _, _, hl, _ => by simp at hl
  | r :: ρ, w :: σ, 0, s, v, _, _ => ⟨cells ρ σ, List.sublist_cons_self _ _, List.Perm.refl _⟩
  | r :: ρ, w :: σ, i + 1, s, v, hl, h => by
    obtain ⟨M, h1, h2⟩ := cells_set (ρ := ρ) (σ := σ) (i := i) s v (by simpa using hl) (by simpa using h)
    exact ⟨(r, w) :: M, h1.cons_cons _, (h2.cons _).trans (List.Perm.swap _ _ _)⟩
theorem cells_pull : ∀ {ρ : List Sl} {σ : St} {i : Nat} {s : Sl} {v : Option V}, σ.length = ρ.length → ρ[i]? = some s → σ[i]? = some v → ∃ M, (cells ρ σ).Perm ((s, v) :: M) ∧ (cells (ρ.set i .u) σ).Perm ((.u, v) :: M)
  | [], _, _, _, _, _, h, _ => by simp at h
  | _ :: _, [], _, _, _, hl, _, _ => by simp at hl
  | r :: ρ, w :: σ, 0, s, v, _, h, e => by
    simp at h e; subst h e
    exact ⟨cells ρ σ, List.Perm.refl _, List.Perm.refl _⟩
  | r :: ρ, w :: σ, i + 1, s, v, hl, h, e => by
    obtain ⟨M, h1, h2⟩ := cells_pull (ρ := ρ) (σ := σ) (i := i) (s := s) (v := v) (by simpa using hl) (by simpa using h) (by simpa using e)
    exact ⟨(r, w) :: M, (h1.cons _).trans (List.Perm.swap _ _ _), (h2.cons _).trans (List.Perm.swap _ _ _)⟩
section
variable {K : Frag} {Ho Fo H : Hp} {L τ : List Cell} {ρ : List Sl} {σ : St} {i : Nat} {s : Sl} {v : Option V}
theorem Env.push (E : Env K Ho Fo ((s, v) :: (cells ρ σ ++ τ)) H) (hl : σ.length = ρ.length) (hi : i < ρ.length) : Env K Ho Fo (cells (ρ.set i s) (σ.set i v) ++ τ) H := by
  obtain ⟨M, h1, h2⟩ := cells_set s v hl hi
  have p : ((s, v) :: (M ++ τ)).Perm (cells (ρ.set i s) (σ.set i v) ++ τ) := (h2.symm.append_right τ)
  exact (E.sub ((h1.append (List.Sublist.refl τ)).cons_cons _)).perm p
theorem Env.pull (E : Env K Ho Fo (cells ρ σ ++ τ) H) (hl : σ.length = ρ.length) (h : ρ[i]? = some s) (e : σ[i]? = some v) : Env K Ho Fo ((s, v) :: (cells (ρ.set i .u) σ ++ τ)) H := by
  obtain ⟨M, h1, h2⟩ := cells_pull hl h e
  obtain ⟨F, E⟩ := E.perm (h1.append_right τ)
  have E2 : EnvF K Ho Fo F H ((Sl.u, v) :: (s, v) :: (M ++ τ)) := E.consN trivial rfl
  refine ⟨F, E2.perm ?_⟩
  exact (List.Perm.swap _ _ _).trans (List.Perm.cons _ (h2.symm.append_right τ))
theorem Env.swap {a b : Cell} (E : Env K Ho Fo (a :: b :: L) H) : Env K Ho Fo (b :: a :: L) H := E.perm (List.Perm.swap _ _ _)
theorem Env.mid {a : Cell} {L M : List Cell} (E : Env K Ho Fo (L ++ a :: M) H) : Env K Ho Fo (a :: (L ++ M)) H := E.perm List.perm_middle
theorem Env.unmid {a : Cell} {L M : List Cell} (E : Env K Ho Fo (a :: (L ++ M)) H) : Env K Ho Fo (L ++ a :: M) H := E.perm List.perm_middle.symm
theorem set_same : ∀ {σ : St} {i : Nat} {v : Option V}, σ[i]? = some v → σ.set i v = σ
  | [], _, _, h => by simp at h
  | w :: σ, 0, v, h => by simp at h; subst h; rfl
  | w :: σ, i + 1, v, h => by rw [List.set_cons_succ, set_same (by simpa using h)]
end

inductive Re where
  | ok (k : Sl) | ex (c : Value)
inductive Rb where
  | ok (b : Bool) | ex (c : Value)
inductive Out where
  | nx (ρ : List Sl) | rt (k : Sl) | bk (ρ : List Sl) | ct (ρ : List Sl) | ex (c : Value) (ρ : List Sl)
def tE (X : Cx) (e : Expr) : TE := fun σ H Q => ∀ pins s, Inv X pins σ H s → wpAny (model X.prog X.w) X.A (eval e X.env) (EP X pins σ Q) X.xe s
def tT (X : Cx) (e : Expr) : TT := fun σ H Q => ∀ pins s, Inv X pins σ H s → wpAny (model X.prog X.w) X.A (isTrue e X.env (eval e X.env)) (TP X pins σ Q) X.xe s
def tW (X : Cx) (e : Expr) : TT := fun σ H Q => ∀ (whole : Sem Value) pins s, Inv X pins σ H s → wpAny (model X.prog X.w) X.A (isTrue e X.env whole) (TP X pins σ Q) X.xe s
def tA (X : Cx) (es : List Expr) : TA := fun σ H Q => ∀ pos pins s, Inv X pins σ H s → wpAny (model X.prog X.w) X.A (spliced (backTo pos (starEach es X.env))) (AP X pins σ Q) X.xe s
def tS (X : Cx) (st : Stmt) : TS := fun D σ H => ∀ pins s, Inv X pins σ H s → wpAny (model X.prog X.w) X.A (exec st X.env) (SP X pins D) X.xe s
def tSs (X : Cx) (st : List Stmt) : TS := fun D σ H => ∀ pins s, Inv X pins σ H s → wpAny (model X.prog X.w) X.A (execs st X.env) (SP X pins D) X.xe s
theorem pe_ {X : Cx} {e : Expr} : PE X e (tE X e) := ⟨fun pins s σ H Q I h => h pins s I⟩
theorem pt_ {X : Cx} {e : Expr} : PT X e (tT X e) := ⟨fun pins s σ H Q I h => h pins s I⟩
theorem pw_ {X : Cx} {e : Expr} : PW X e (tW X e) := ⟨fun whole pins s σ H Q I h => h whole pins s I⟩
theorem pa_ {X : Cx} {es : List Expr} : PA X es (tA X es) := ⟨fun pos pins s σ H Q I h => h pos pins s I⟩
theorem ps_ {X : Cx} {st : Stmt} : PS X st (tS X st) := ⟨fun pins s σ H D I h => h pins s I⟩
theorem pss_ {X : Cx} {st : List Stmt} : PSs X st (tSs X st) := ⟨fun pins s σ H D I h => h pins s I⟩
theorem tE_of {X : Cx} {e : Expr} {t : TE} {σ : St} {H : Hp} {Q : VK} (h : PE X e t) (q : t σ H Q) : tE X e σ H Q := fun pins s I => h.run pins s σ H Q I q
theorem tT_of {X : Cx} {e : Expr} {t : TT} {σ : St} {H : Hp} {Q : Bool → Hp → Prop} (h : PT X e t) (q : t σ H Q) : tT X e σ H Q := fun pins s I => h.run pins s σ H Q I q
theorem tW_of {X : Cx} {e : Expr} {t : TT} {σ : St} {H : Hp} {Q : Bool → Hp → Prop} (h : PW X e t) (q : t σ H Q) : tW X e σ H Q := fun whole pins s I => h.run whole pins s σ H Q I q
theorem tA_of {X : Cx} {e : List Expr} {t : TA} {σ : St} {H : Hp} {Q : List V → Hp → Prop} (h : PA X e t) (q : t σ H Q) : tA X e σ H Q := fun pos pins s I => h.run pos pins s σ H Q I q
theorem tS_of {X : Cx} {e : Stmt} {t : TS} {σ : St} {H : Hp} {D : Ends} (h : PS X e t) (q : t D σ H) : tS X e D σ H := fun pins s I => h.run pins s σ H D I q
theorem tSs_of {X : Cx} {e : List Stmt} {t : TS} {σ : St} {H : Hp} {D : Ends} (h : PSs X e t) (q : t D σ H) : tSs X e D σ H := fun pins s I => h.run pins s σ H D I q

def Exc (X : Cx) (W : WX) : Prop := L2N.Takes X W ∧ PassesOwn (model X.prog X.w) X.A X.env X.xe ∧ X.N.Nodup
def PostE (K : Frag) (W : WX) (Ho Fo : Hp) (ρ : List Sl) (σ : St) (τ : List Cell) (r : Re) (Q : VK) : Prop := match r with
  | .ok k => ∀ v H', Env K Ho Fo (cells ρ σ ++ (k, some v) :: τ) H' → Q v H'
  | .ex c => ∀ H', Env K Ho Fo (cells ρ σ ++ τ) H' → W c none σ H'
def PostT (K : Frag) (W : WX) (Ho Fo : Hp) (ρ : List Sl) (σ : St) (τ : List Cell) (r : Rb) (Q : Bool → Hp → Prop) : Prop := match r with
  | .ok b => ∀ H', Env K Ho Fo (cells ρ σ ++ τ) H' → Q b H'
  | .ex c => ∀ H', Env K Ho Fo (cells ρ σ ++ τ) H' → W c none σ H'
def PostS (K : Frag) (W : WX) (Ho Fo : Hp) (τ : List Cell) (r : Out) (D : Ends) : Prop := match r with
  | .nx ρ => ∀ σ H', σ.length = ρ.length → Env K Ho Fo (cells ρ σ ++ τ) H' → D.nx σ H'
  | .bk ρ => ∀ σ H', σ.length = ρ.length → Env K Ho Fo (cells ρ σ ++ τ) H' → D.bk σ H'
  | .ct ρ => ∀ σ H', σ.length = ρ.length → Env K Ho Fo (cells ρ σ ++ τ) H' → D.ct σ H'
  | .rt k => ∀ v H', Env K Ho Fo ((k, some v) :: τ) H' → D.rt v H'
  | .ex c ρ => ∀ σ H', σ.length = ρ.length → Env K Ho Fo (cells ρ σ ++ τ) H' → W c none σ H'
def DE (X : Cx) (e : Expr) (ρ : List Sl) (r : Re) : Prop := ∀ (W : WX), Exc X W → ∀ (Ho Fo : Hp) (σ : St) (τ : List Cell) (H : Hp) (Q : VK), σ.length = ρ.length → Env X.K Ho Fo (cells ρ σ ++ τ) H → PostE X.K W Ho Fo ρ σ τ r Q → tE X e σ H Q
def DT (X : Cx) (e : Expr) (ρ : List Sl) (r : Rb) : Prop := ∀ (W : WX), Exc X W → ∀ (Ho Fo : Hp) (σ : St) (τ : List Cell) (H : Hp) (Q : Bool → Hp → Prop), σ.length = ρ.length → Env X.K Ho Fo (cells ρ σ ++ τ) H → PostT X.K W Ho Fo ρ σ τ r Q → tT X e σ H Q
def DW (X : Cx) (e : Expr) (ρ : List Sl) (r : Rb) : Prop := ∀ (W : WX), Exc X W → ∀ (Ho Fo : Hp) (σ : St) (τ : List Cell) (H : Hp) (Q : Bool → Hp → Prop), σ.length = ρ.length → Env X.K Ho Fo (cells ρ σ ++ τ) H → PostT X.K W Ho Fo ρ σ τ r Q → tW X e σ H Q
def DA (X : Cx) (es : List Expr) (ρ : List Sl) (ks : List Sl) : Prop := ∀ (W : WX), Exc X W → ∀ (Ho Fo : Hp) (σ : St) (τ : List Cell) (H : Hp) (Q : List V → Hp → Prop), σ.length = ρ.length → Env X.K Ho Fo (cells ρ σ ++ τ) H →
  (∀ vs H', vs.length = ks.length → Env X.K Ho Fo (cells ρ σ ++ (cells ks (vs.map some) ++ τ)) H' → Q vs H') → tA X es σ H Q
def DS (X : Cx) (st : Stmt) (ρ : List Sl) (r : Out) : Prop := ∀ (W : WX), Exc X W → ∀ (Ho Fo : Hp) (σ : St) (τ : List Cell) (H : Hp) (D : Ends), σ.length = ρ.length → Env X.K Ho Fo (cells ρ σ ++ τ) H → PostS X.K W Ho Fo τ r D → tS X st D σ H
def DSs (X : Cx) (st : List Stmt) (ρ : List Sl) (r : Out) : Prop := ∀ (W : WX), Exc X W → ∀ (Ho Fo : Hp) (σ : St) (τ : List Cell) (H : Hp) (D : Ends), σ.length = ρ.length → Env X.K Ho Fo (cells ρ σ ++ τ) H → PostS X.K W Ho Fo τ r D → tSs X st D σ H

section
variable {X : Cx} {a b c e : Expr} {es : List Expr} {ρ ρ' : List Sl} {pos : Pos} {x y z : PyData} {k k1 k2 : Sl} {n : Str}
theorem de_var (i : Nat) (h : ρ[i]? = some (.d x)) (hN : X.N[i]? = some n := by rfl) (hv : Vis X.env.scope n := by first | exact Or.inl rfl | exact Or.inr (Or.inl rfl) | exact Or.inr (Or.inr rfl)) (hd : (n == ("__debug__" : Str)) = false := by decide)
    (hcd : (n == ("__classdict__" : Str)) = false := by decide) : DE X (.Name n pos) ρ (.ok (.d x)) := fun W hW Ho Fo σ τ H Q hl E hQ => by
  obtain ⟨v, h1, h2⟩ := cells_at hl h
  obtain ⟨w, e1, _⟩ := E.fget (List.mem_append_left _ h2)
  subst e1
  exact tE_of (pe_var hN hv hd hcd) ⟨w, h1, hQ _ _ (E.dup (List.mem_append_left _ h2)).unmid⟩
theorem de_int {i : Int} {j} : DE X (.Constant (.int i) j pos) ρ (.ok (.d (.int i))) := fun W hW Ho Fo σ τ H Q hl E hQ => tE_of pe_int (hQ _ _ (E.int i).unmid)
theorem de_bl {i : Bool} {j} : DE X (.Constant (.bool i) j pos) ρ (.ok (.d (.bool i))) := fun W hW Ho Fo σ τ H Q hl E hQ => tE_of pe_bl (hQ _ _ (E.bl i).unmid)
theorem de_str {i : Str} {j} : DE X (.Constant (.str i) j pos) ρ (.ok (.d (.str i))) := fun W hW Ho Fo σ τ H Q hl E hQ => tE_of pe_str (hQ _ _ (E.str i).unmid)
theorem de_non {j} : DE X (.Constant .none j pos) ρ (.ok (.d .none)) := fun W hW Ho Fo σ τ H Q hl E hQ => tE_of pe_non (hQ _ _ E.non.unmid)
theorem de_frz {xs : List PyData} (h : DE X e ρ (.ok (.o xs))) : DE X e ρ (.ok (.d (.list xs))) := fun W hW Ho Fo σ τ H Q hl E hQ =>
  h W hW Ho Fo σ τ H Q hl E fun v H' E' => hQ v H' (E'.mid.freeze).unmid
theorem de_frzF {xs : List PyData} (h : DE X e ρ (.ok (.o xs))) (hx : ∀ d ∈ xs, flat d = true) : DE X e ρ (.ok (.f (.list xs))) := fun W hW Ho Fo σ τ H Q hl E hQ =>
  h W hW Ho Fo σ τ H Q hl E fun v H' E' => hQ v H' (E'.mid.freezeF hx).unmid
theorem de_d (h : DE X e ρ (.ok (.f x))) : DE X e ρ (.ok (.d x)) := fun W hW Ho Fo σ τ H Q hl E hQ =>
  h W hW Ho Fo σ τ H Q hl E fun v H' E' => hQ v H' (E'.mid.toD).unmid
theorem de_f (h : DE X e ρ (.ok (.d x))) (hf : flat x = true) : DE X e ρ (.ok (.f x)) := fun W hW Ho Fo σ τ H Q hl E hQ =>
  h W hW Ho Fo σ τ H Q hl E fun v H' E' => hQ v H' (E'.mid.toF hf).unmid
theorem de_is (h : DE X e ρ (.ok (.d x))) (q : x = y) : DE X e ρ (.ok (.d y)) := q ▸ h
theorem de_oIs {xs ys : List PyData} (h : DE X e ρ (.ok (.o xs))) (q : xs = ys) : DE X e ρ (.ok (.o ys)) := q ▸ h

def RD (K : Frag) (r : R2) (k1 k2 k : Sl) : Prop := ∀ (Ho Fo : Hp) (L : List Cell) (v w : V) (H : Hp) (Q : VK), Env K Ho Fo ((k1, some v) :: (k2, some w) :: L) H → (∀ z H', Env K Ho Fo ((k, some z) :: L) H' → Q z H') → r v w H Q
theorem de_two {r : R2} (hp : ∀ ta tb, PE X a ta → PE X b tb → PE X e (tOp r ta tb)) (ha : DE X a ρ (.ok k1)) (hb : DE X b ρ (.ok k2)) (hr : RD X.K r k1 k2 k) : DE X e ρ (.ok k) := fun W hW Ho Fo σ τ H Q hl E hQ =>
  tE_of (hp _ _ pe_ pe_) (ha W hW Ho Fo σ τ H _ hl E fun v H1 E1 => hb W hW Ho Fo σ _ H1 _ hl E1 fun w H2 E2 => hr Ho Fo (cells ρ σ ++ τ) v w H2 Q (by
    have q := E2.mid
    have q2 : Env X.K Ho Fo ((k2, some w) :: (k1, some v) :: (cells ρ σ ++ τ)) H2 := q.perm (List.Perm.cons _ List.perm_middle)
    exact q2.swap) fun z H' E' => hQ z H' E'.unmid)
theorem de_op {op : Operator} {r : R2} (ho : OpR X (binaryOp op) r) (ha : DE X a ρ (.ok k1)) (hb : DE X b ρ (.ok k2)) (hr : RD X.K r k1 k2 k) : DE X (.BinOp a op b pos) ρ (.ok k) :=
  de_two (fun _ _ h1 h2 => pe_op ho h1 h2) ha hb hr
theorem de_cmp {op : CmpOp} {r : R2} (ho : OpR X (compareOp op) r) (ha : DE X a ρ (.ok k1)) (hb : DE X b ρ (.ok k2)) (hm : behindInMarks op b = false) (hr : RD X.K r k1 k2 k) : DE X (.Compare a [op] [b] pos) ρ (.ok k) :=
  de_two (fun _ _ h1 h2 => pe_cmpR ho h1 h2 hm) ha hb hr
theorem de_sub {r : R2} (hi : IxR X r) (ha : DE X a ρ (.ok k1)) (hb : DE X b ρ (.ok k2)) (hr : RD X.K r k1 k2 k) (hs : PlainIx b := by exact fun _ _ => rfl) : DE X (.Subscript a b pos) ρ (.ok k) :=
  de_two (fun _ _ h1 h2 => pe_ix hi h1 h2 hs) ha hb hr
theorem rd_int {C : Int → Int → Prop} {g : Int → Int → Int} {K : Frag} {i j : Int} (hc : C i j) : RD K (rI C fun i j => .int (g i j)) (.d (.int i)) (.d (.int j)) (.d (.int (g i j))) := fun Ho Fo L v w H Q E hQ => by
  obtain ⟨v', e1, h1⟩ := E.fget List.mem_cons_self
  obtain ⟨w', e2, h2⟩ := E.fget (List.mem_cons_of_mem _ List.mem_cons_self)
  cases e1; cases e2
  exact ⟨i, j, dp_int h1, dp_int h2, hc, hQ _ _ (E.tail.tail.int _)⟩
theorem rd_int0 {g : Int → Int → Int} {K : Frag} {i j : Int} : RD K (rI0 fun i j => .int (g i j)) (.d (.int i)) (.d (.int j)) (.d (.int (g i j))) := fun Ho Fo L v w H Q E hQ => by
  obtain ⟨v', e1, h1⟩ := E.fget List.mem_cons_self
  obtain ⟨w', e2, h2⟩ := E.fget (List.mem_cons_of_mem _ List.mem_cons_self)
  cases e1; cases e2
  exact ⟨i, j, dp_int h1, dp_int h2, hQ _ _ (E.tail.tail.int _)⟩
theorem rd_cmp {g : Int → Int → Bool} {K : Frag} {i j : Int} : RD K (rI0 fun i j => .bl (g i j)) (.d (.int i)) (.d (.int j)) (.d (.bool (g i j))) := fun Ho Fo L v w H Q E hQ => by
  obtain ⟨v', e1, h1⟩ := E.fget List.mem_cons_self
  obtain ⟨w', e2, h2⟩ := E.fget (List.mem_cons_of_mem _ List.mem_cons_self)
  cases e1; cases e2
  exact ⟨i, j, dp_int h1, dp_int h2, hQ _ _ (E.tail.tail.bl _)⟩
variable {i j : Int}
theorem de_add (ha : DE X a ρ (.ok (.d (.int i)))) (hb : DE X b ρ (.ok (.d (.int j)))) : DE X (.BinOp a .Add b pos) ρ (.ok (.d (.int (i + j)))) := de_op op_add ha hb rd_int0
theorem de_subI (ha : DE X a ρ (.ok (.d (.int i)))) (hb : DE X b ρ (.ok (.d (.int j)))) : DE X (.BinOp a .Sub b pos) ρ (.ok (.d (.int (i - j)))) := de_op op_sub ha hb rd_int0
theorem de_mul (ha : DE X a ρ (.ok (.d (.int i)))) (hb : DE X b ρ (.ok (.d (.int j)))) (hc : CMul i j) : DE X (.BinOp a .Mult b pos) ρ (.ok (.d (.int (i * j)))) := de_op op_mul ha hb (rd_int hc)
theorem de_div (ha : DE X a ρ (.ok (.d (.int i)))) (hb : DE X b ρ (.ok (.d (.int j)))) (hc : CDiv i j) : DE X (.BinOp a .FloorDiv b pos) ρ (.ok (.d (.int (i / j)))) := de_op op_fdiv ha hb (rd_int hc)
theorem de_mod (ha : DE X a ρ (.ok (.d (.int i)))) (hb : DE X b ρ (.ok (.d (.int j)))) (hc : 0 < j) : DE X (.BinOp a .Mod b pos) ρ (.ok (.d (.int (i % j)))) := de_op op_mod ha hb (rd_int (C := fun _ j => 0 < j) hc)
theorem de_pow (ha : DE X a ρ (.ok (.d (.int i)))) (hb : DE X b ρ (.ok (.d (.int j)))) (hc : CPow i j) : DE X (.BinOp a .Pow b pos) ρ (.ok (.d (.int (i ^ j.toNat)))) := de_op op_pow ha hb (rd_int hc)
theorem de_lt (ha : DE X a ρ (.ok (.d (.int i)))) (hb : DE X b ρ (.ok (.d (.int j)))) : DE X (.Compare a [.Lt] [b] pos) ρ (.ok (.d (.bool (decide (i < j))))) := de_cmp op_lt ha hb (nomark _) rd_cmp
theorem de_le (ha : DE X a ρ (.ok (.d (.int i)))) (hb : DE X b ρ (.ok (.d (.int j)))) : DE X (.Compare a [.LtE] [b] pos) ρ (.ok (.d (.bool (decide (i ≤ j))))) := de_cmp op_le ha hb (nomark _) rd_cmp
theorem de_gt (ha : DE X a ρ (.ok (.d (.int i)))) (hb : DE X b ρ (.ok (.d (.int j)))) : DE X (.Compare a [.Gt] [b] pos) ρ (.ok (.d (.bool (decide (j < i))))) := de_cmp op_gt ha hb (nomark _) rd_cmp
theorem de_ge (ha : DE X a ρ (.ok (.d (.int i)))) (hb : DE X b ρ (.ok (.d (.int j)))) : DE X (.Compare a [.GtE] [b] pos) ρ (.ok (.d (.bool (decide (j ≤ i))))) := de_cmp op_ge ha hb (nomark _) rd_cmp
theorem rd_eq {K : Frag} : RD K rEq (.d (.int i)) (.d (.int j)) (.d (.bool (decide (i = j)))) := fun Ho Fo L v w H Q E hQ => by
  obtain ⟨v', e1, h1⟩ := E.fget List.mem_cons_self
  obtain ⟨w', e2, h2⟩ := E.fget (List.mem_cons_of_mem _ List.mem_cons_self)
  cases e1; cases e2
  cases dp_int h1; cases dp_int h2
  refine ⟨rfl, ?_⟩
  have q : decide (V.int i = V.int j) = decide (i = j) := by rw [dec_int, Bool.beq_eq_decide_eq]
  rw [q]
  exact hQ _ _ (E.tail.tail.bl _)
theorem rd_ne {K : Frag} : RD K rNe (.d (.int i)) (.d (.int j)) (.d (.bool (!decide (i = j)))) := fun Ho Fo L v w H Q E hQ => by
  obtain ⟨v', e1, h1⟩ := E.fget List.mem_cons_self
  obtain ⟨w', e2, h2⟩ := E.fget (List.mem_cons_of_mem _ List.mem_cons_self)
  cases e1; cases e2
  cases dp_int h1; cases dp_int h2
  refine ⟨rfl, ?_⟩
  have q : decide (V.int i = V.int j) = decide (i = j) := by rw [dec_int, Bool.beq_eq_decide_eq]
  rw [q]
  exact hQ _ _ (E.tail.tail.bl _)
theorem de_eq (ha : DE X a ρ (.ok (.d (.int i)))) (hb : DE X b ρ (.ok (.d (.int j)))) : DE X (.Compare a [.Eq] [b] pos) ρ (.ok (.d (.bool (decide (i = j))))) := de_cmp op_eq ha hb (nomark _) rd_eq
theorem de_ne (ha : DE X a ρ (.ok (.d (.int i)))) (hb : DE X b ρ (.ok (.d (.int j)))) : DE X (.Compare a [.NotEq] [b] pos) ρ (.ok (.d (.bool (!decide (i = j))))) := de_cmp op_ne ha hb (nomark _) rd_ne
end
end DL

namespace DL
open PySem PySem.Spec PyProof.Rows L2
section
variable {X : Cx} {a b c e f : Expr} {es : List Expr} {ρ ρ' ρ'' : List Sl} {pos apos : Pos} {x y z : PyData} {k k1 k2 : Sl} {n : Str} {i j : Int} {rest : List Expr} {cl : Value}
theorem dt_of (hp : ∀ te, PE X e te → PT X e (tB te)) {q : Bool} (h : DE X e ρ (.ok (.d (.bool q)))) : DT X e ρ (.ok q) := fun W hW Ho Fo σ τ H Q hl E hQ =>
  tT_of (hp _ pe_) (h W hW Ho Fo σ τ H _ hl E fun v H' E' => by
    obtain ⟨w, e1, h1⟩ := E'.mid.fget List.mem_cons_self
    cases e1
    exact ⟨q, dp_bl h1, hQ _ E'.mid.tail⟩)
theorem dt_val {q : Bool} (h : DE X e ρ (.ok (.d (.bool q)))) (he : ∀ whole, isTrue e X.env whole = (do let v ← whole; standAt e.pos; holding [v] (truthy v)) := by intro _; rfl) : DT X e ρ (.ok q) :=
  dt_of (fun _ h => pt_val h he) h
theorem dt_two {op : CmpOp} {r : R2} {q : Bool} (ho : OpR X (compareOp op) r) (ha : DE X a ρ (.ok k1)) (hb : DE X b ρ (.ok k2)) (hm : behindInMarks op b = false) (hr : RD X.K r k1 k2 (.d (.bool q))) : DT X (.Compare a [op] [b] pos) ρ (.ok q) := fun W hW Ho Fo σ τ H Q hl E hQ =>
  tT_of (pt_cmpR ho pe_ pe_ hm) (ha W hW Ho Fo σ τ H _ hl E fun v H1 E1 => hb W hW Ho Fo σ _ H1 _ hl E1 fun w H2 E2 => hr Ho Fo (cells ρ σ ++ τ) v w H2 _ (by
    have q2 : Env X.K Ho Fo ((k2, some w) :: (k1, some v) :: (cells ρ σ ++ τ)) H2 := E2.mid.perm (List.Perm.cons _ List.perm_middle)
    exact q2.swap) fun z H' E' => by
      obtain ⟨w, e1, h1⟩ := E'.fget List.mem_cons_self
      cases e1
      exact ⟨q, dp_bl h1, hQ _ E'.tail⟩)
theorem dt_twoX {op : CmpOp} {r : R2} (ho : OpR X (compareOp op) r) (ha : DE X a ρ (.ok k1)) (hb : DE X b ρ (.ex cl)) (hm : behindInMarks op b = false) : DT X (.Compare a [op] [b] pos) ρ (.ex cl) := fun W hW Ho Fo σ τ H Q hl E hQ =>
  tT_of (pt_cmpR ho pe_ pe_ hm) (ha W hW Ho Fo σ τ H _ hl E fun v H1 E1 => hb W hW Ho Fo σ _ H1 _ hl E1 fun H2 E2 => hQ _ E2.mid.tail)
theorem dt_lt (ha : DE X a ρ (.ok (.d (.int i)))) (hb : DE X b ρ (.ok (.d (.int j)))) : DT X (.Compare a [.Lt] [b] pos) ρ (.ok (decide (i < j))) := dt_two op_lt ha hb (nomark _) rd_cmp
theorem dt_le (ha : DE X a ρ (.ok (.d (.int i)))) (hb : DE X b ρ (.ok (.d (.int j)))) : DT X (.Compare a [.LtE] [b] pos) ρ (.ok (decide (i ≤ j))) := dt_two op_le ha hb (nomark _) rd_cmp
theorem dt_gt (ha : DE X a ρ (.ok (.d (.int i)))) (hb : DE X b ρ (.ok (.d (.int j)))) : DT X (.Compare a [.Gt] [b] pos) ρ (.ok (decide (j < i))) := dt_two op_gt ha hb (nomark _) rd_cmp
theorem dt_ge (ha : DE X a ρ (.ok (.d (.int i)))) (hb : DE X b ρ (.ok (.d (.int j)))) : DT X (.Compare a [.GtE] [b] pos) ρ (.ok (decide (j ≤ i))) := dt_two op_ge ha hb (nomark _) rd_cmp
theorem dt_eq (ha : DE X a ρ (.ok (.d (.int i)))) (hb : DE X b ρ (.ok (.d (.int j)))) : DT X (.Compare a [.Eq] [b] pos) ρ (.ok (decide (i = j))) := dt_two op_eq ha hb (nomark _) rd_eq
theorem dt_ne (ha : DE X a ρ (.ok (.d (.int i)))) (hb : DE X b ρ (.ok (.d (.int j)))) : DT X (.Compare a [.NotEq] [b] pos) ρ (.ok (!decide (i = j))) := dt_two op_ne ha hb (nomark _) rd_ne
theorem rd_eqD {K : Frag} (hx : SeqAt.shaped x = true) (hy : SeqAt.shaped y = true) : RD K (rEqD K) (.d x) (.d y) (.d (.bool (PyData.eqv x y))) := fun Ho Fo L v w H Q E hQ => by
  obtain ⟨v', e1, h1⟩ := E.fget List.mem_cons_self
  obtain ⟨w', e2, h2⟩ := E.fget (List.mem_cons_of_mem _ List.mem_cons_self)
  cases e1; cases e2
  exact ⟨x, y, dp_dp h1, dp_dp h2, hx, hy, hQ _ _ (E.tail.tail.bl _)⟩
theorem rd_neD {K : Frag} (hx : SeqAt.shaped x = true) (hy : SeqAt.shaped y = true) : RD K (rNeD K) (.d x) (.d y) (.d (.bool (!PyData.eqv x y))) := fun Ho Fo L v w H Q E hQ => by
  obtain ⟨v', e1, h1⟩ := E.fget List.mem_cons_self
  obtain ⟨w', e2, h2⟩ := E.fget (List.mem_cons_of_mem _ List.mem_cons_self)
  cases e1; cases e2
  exact ⟨x, y, dp_dp h1, dp_dp h2, hx, hy, hQ _ _ (E.tail.tail.bl _)⟩
theorem de_eqD (hu : X.A.units + 64 < cLine) (ha : DE X a ρ (.ok (.d x))) (hb : DE X b ρ (.ok (.d y))) (hx : SeqAt.shaped x = true) (hy : SeqAt.shaped y = true) : DE X (.Compare a [.Eq] [b] pos) ρ (.ok (.d (.bool (PyData.eqv x y)))) := de_cmp (op_eqD hu) ha hb (nomark _) (rd_eqD hx hy)
theorem de_neD (hu : X.A.units + 64 < cLine) (ha : DE X a ρ (.ok (.d x))) (hb : DE X b ρ (.ok (.d y))) (hx : SeqAt.shaped x = true) (hy : SeqAt.shaped y = true) : DE X (.Compare a [.NotEq] [b] pos) ρ (.ok (.d (.bool (!PyData.eqv x y)))) := de_cmp (op_neD hu) ha hb (nomark _) (rd_neD hx hy)
theorem dt_eqD (hu : X.A.units + 64 < cLine) (ha : DE X a ρ (.ok (.d x))) (hb : DE X b ρ (.ok (.d y))) (hx : SeqAt.shaped x = true) (hy : SeqAt.shaped y = true) : DT X (.Compare a [.Eq] [b] pos) ρ (.ok (PyData.eqv x y)) := dt_two (op_eqD hu) ha hb (nomark _) (rd_eqD hx hy)
theorem dt_neD (hu : X.A.units + 64 < cLine) (ha : DE X a ρ (.ok (.d x))) (hb : DE X b ρ (.ok (.d y))) (hx : SeqAt.shaped x = true) (hy : SeqAt.shaped y = true) : DT X (.Compare a [.NotEq] [b] pos) ρ (.ok (!PyData.eqv x y)) := dt_two (op_neD hu) ha hb (nomark _) (rd_neD hx hy)
theorem dt_is {p q : Bool} (h : DT X e ρ (.ok p)) (w : p = q) : DT X e ρ (.ok q) := w ▸ h
theorem dw_is {p q : Bool} (h : DW X e ρ (.ok p)) (w : p = q) : DW X e ρ (.ok q) := w ▸ h
theorem dt_chain {op op' : CmpOp} {r r' : R2} {p q : Bool} (ho : OpR X (compareOp op) r) (ho' : OpR X (compareOp op') r') (ha : DE X a ρ (.ok (.d x))) (hb : DE X b ρ (.ok (.d y))) (hc : DE X c ρ (.ok (.d z)))
    (hr : RD X.K r (.d x) (.d y) (.d (.bool p))) (hr' : RD X.K r' (.d y) (.d z) (.d (.bool q)))
    (hm : lastMarks [op, op'] [b, c] = false := by with_unfolding_all rfl) : DT X (.Compare a [op, op'] [b, c] pos) ρ (.ok (p && q)) := fun W hW Ho Fo σ τ H Q hl E hQ =>
  tT_of (pt_chain ho ho' pe_ pe_ pe_ hm) (ha W hW Ho Fo σ τ H _ hl E fun v H1 E1 => hb W hW Ho Fo σ _ H1 _ hl E1 fun w H2 E2 => by
    have q2 : Env X.K Ho Fo ((.d y, some w) :: (.d x, some v) :: (cells ρ σ ++ τ)) H2 := E2.mid.perm (List.Perm.cons _ List.perm_middle)
    refine hr Ho Fo ((.d y, some w) :: (cells ρ σ ++ τ)) v w H2 _ ?_ fun z1 H3 E3 => ?_
    · exact (q2.dup List.mem_cons_self).perm ((List.Perm.cons _ (List.Perm.swap _ _ _)).trans (List.Perm.swap _ _ _))
    · obtain ⟨z', e1, h1⟩ := E3.fget List.mem_cons_self
      cases e1
      refine ⟨p, dp_bl h1, ?_⟩
      cases p with
      | false =>
        rw [if_neg Bool.false_ne_true]
        exact ⟨false, rfl, hQ _ E3.tail.tail⟩
      | true =>
        rw [if_pos rfl]
        have E4 : Env X.K Ho Fo (cells ρ σ ++ (.d y, some w) :: τ) H3 := E3.tail.unmid
        refine hc W hW Ho Fo σ _ H3 _ hl E4 fun u H5 E5 => ?_
        have q5 : Env X.K Ho Fo ((.d z, some u) :: (.d y, some w) :: (cells ρ σ ++ τ)) H5 := E5.mid.perm (List.Perm.cons _ List.perm_middle)
        refine hr' Ho Fo _ w u H5 _ q5.swap fun z2 H6 E6 => ?_
        obtain ⟨z'', e2, h2⟩ := E6.fget List.mem_cons_self
        cases e2
        exact ⟨q, dp_bl h2, hQ _ E6.tail⟩)
theorem dt_not {q : Bool} (h : DT X e ρ (.ok q)) : DT X (.UnaryOp .Not e pos) ρ (.ok (!q)) := fun W hW Ho Fo σ τ H Q hl E hQ =>
  tT_of (pt_not pt_) (h W hW Ho Fo σ τ H _ hl E fun H' E' => hQ _ E')
theorem dt_w {r : Rb} (h : DW X e ρ r) : DT X e ρ r := fun W hW Ho Fo σ τ H Q hl E hQ => tT_of pw_.pt (h W hW Ho Fo σ τ H Q hl E hQ)
theorem dw_and1 {r : Rb} (h : DT X a ρ r) : DW X (.BoolOp .And [a] pos) ρ r := fun W hW Ho Fo σ τ H Q hl E hQ => tW_of (pw_and1 pt_) (h W hW Ho Fo σ τ H Q hl E hQ)
theorem dw_or1 {r : Rb} (h : DT X a ρ r) : DW X (.BoolOp .Or [a] pos) ρ r := fun W hW Ho Fo σ τ H Q hl E hQ => tW_of (pw_or1 pt_) (h W hW Ho Fo σ τ H Q hl E hQ)
theorem dw_and {p q : Bool} (h1 : DT X a ρ (.ok p)) (h2 : p = true → DW X (.BoolOp .And (b :: rest) pos) ρ (.ok q)) : DW X (.BoolOp .And (a :: b :: rest) pos) ρ (.ok (p && q)) := fun W hW Ho Fo σ τ H Q hl E hQ =>
  tW_of (pw_and pt_ pw_) (h1 W hW Ho Fo σ τ H _ hl E fun H' E' => by
    cases p with
    | false => rw [if_neg Bool.false_ne_true]; exact hQ _ E'
    | true => rw [if_pos rfl]; exact h2 rfl W hW Ho Fo σ τ H' Q hl E' hQ)
theorem dw_or {p q : Bool} (h1 : DT X a ρ (.ok p)) (h2 : p = false → DW X (.BoolOp .Or (b :: rest) pos) ρ (.ok q)) : DW X (.BoolOp .Or (a :: b :: rest) pos) ρ (.ok (p || q)) := fun W hW Ho Fo σ τ H Q hl E hQ =>
  tW_of (pw_or pt_ pw_) (h1 W hW Ho Fo σ τ H _ hl E fun H' E' => by
    cases p with
    | true => rw [if_pos rfl]; exact hQ _ E'
    | false => rw [if_neg Bool.false_ne_true]; exact h2 rfl W hW Ho Fo σ τ H' Q hl E' hQ)
theorem dw_x (h1 : DT X a ρ (.ex cl)) : DW X (.BoolOp .Or (a :: b :: rest) pos) ρ (.ex cl) := fun W hW Ho Fo σ τ H Q hl E hQ =>
  tW_of (pw_or pt_ pw_) (h1 W hW Ho Fo σ τ H _ hl E hQ)
theorem de_one {op} {r : Re} (h : DE X a ρ r) : DE X (.BoolOp op [a] pos) ρ r := fun W hW Ho Fo σ τ H Q hl E hQ => tE_of (pe_one pe_) (h W hW Ho Fo σ τ H Q hl E hQ)
theorem de_and {p q : Bool} (h1 : DE X a ρ (.ok (.d (.bool p)))) (h2 : p = true → DE X (.BoolOp .And (b :: rest) pos) ρ (.ok (.d (.bool q)))) : DE X (.BoolOp .And (a :: b :: rest) pos) ρ (.ok (.d (.bool (p && q)))) := fun W hW Ho Fo σ τ H Q hl E hQ =>
  tE_of (pe_and pe_ pe_) (h1 W hW Ho Fo σ τ H _ hl E fun v H' E' => by
    obtain ⟨w, e1, h1⟩ := E'.mid.fget List.mem_cons_self
    cases e1
    refine ⟨p, dp_bl h1, ?_⟩
    cases p with
    | false => rw [if_neg Bool.false_ne_true]; exact hQ _ _ ((E'.mid.tail).bl false).unmid
    | true => rw [if_pos rfl]; exact h2 rfl W hW Ho Fo σ τ H' Q hl E'.mid.tail hQ)
theorem de_or {p q : Bool} (h1 : DE X a ρ (.ok (.d (.bool p)))) (h2 : p = false → DE X (.BoolOp .Or (b :: rest) pos) ρ (.ok (.d (.bool q)))) : DE X (.BoolOp .Or (a :: b :: rest) pos) ρ (.ok (.d (.bool (p || q)))) := fun W hW Ho Fo σ τ H Q hl E hQ =>
  tE_of (pe_or pe_ pe_) (h1 W hW Ho Fo σ τ H _ hl E fun v H' E' => by
    obtain ⟨w, e1, h1⟩ := E'.mid.fget List.mem_cons_self
    cases e1
    refine ⟨p, dp_bl h1, ?_⟩
    cases p with
    | true => rw [if_pos rfl]; exact hQ _ _ ((E'.mid.tail).bl true).unmid
    | false => rw [if_neg Bool.false_ne_true]; exact h2 rfl W hW Ho Fo σ τ H' Q hl E'.mid.tail hQ)
theorem de_not {q : Bool} (h : DE X e ρ (.ok (.d (.bool q)))) : DE X (.UnaryOp .Not e pos) ρ (.ok (.d (.bool (!q)))) := fun W hW Ho Fo σ τ H Q hl E hQ =>
  tE_of (pe_not pe_) (h W hW Ho Fo σ τ H _ hl E fun v H' E' => by
    obtain ⟨w, e1, h1⟩ := E'.mid.fget List.mem_cons_self
    cases e1
    exact ⟨q, dp_bl h1, hQ _ _ ((E'.mid.tail).bl _).unmid⟩)
theorem de_if {q : Bool} {r : Re} (hc : DT X c ρ (.ok q)) (ha : q = true → DE X a ρ r) (hb : q = false → DE X b ρ r) : DE X (.IfExp c a b pos) ρ r := fun W hW Ho Fo σ τ H Q hl E hQ =>
  tE_of (pe_ifExp pt_ pe_ pe_) (hc W hW Ho Fo σ τ H _ hl E fun H' E' => by
    cases q with
    | true => rw [if_pos rfl]; exact ha rfl W hW Ho Fo σ τ H' Q hl E' hQ
    | false => rw [if_neg Bool.false_ne_true]; exact hb rfl W hW Ho Fo σ τ H' Q hl E' hQ)
theorem de_neg (h : DE X e ρ (.ok (.d (.int i)))) : DE X (.UnaryOp .USub e pos) ρ (.ok (.d (.int (-i)))) := fun W hW Ho Fo σ τ H Q hl E hQ =>
  tE_of (pe_un un_neg pe_) (h W hW Ho Fo σ τ H _ hl E fun v H' E' => by
    obtain ⟨w, e1, h1⟩ := E'.mid.fget List.mem_cons_self
    cases e1
    exact ⟨i, dp_int h1, hQ _ _ ((E'.mid.tail).int _).unmid⟩)

theorem da_nil : DA X [] ρ [] := fun W hW Ho Fo σ τ H Q hl E hQ => tA_of pa_nil (hQ [] H rfl E)
theorem da_cons {ks : List Sl} (h1 : DE X e ρ (.ok k)) (h2 : DA X es ρ ks) (hs : starEach (e :: es) X.env = (false, eval e X.env) :: starEach es X.env := by rfl) : DA X (e :: es) ρ (k :: ks) := fun W hW Ho Fo σ τ H Q hl E hQ =>
  tA_of (pa_cons pe_ pa_ hs) (h1 W hW Ho Fo σ τ H _ hl E fun v H1 E1 => h2 W hW Ho Fo σ _ H1 _ hl E1 fun vs H2 e2 E2 => hQ (v :: vs) H2 (by simp [e2]) (by
    show Env X.K Ho Fo (cells ρ σ ++ ((k, some v) :: (cells ks (vs.map some) ++ τ))) H2
    exact E2.perm (List.Perm.append_left _ List.perm_middle)))
theorem cells_ds {K : Frag} {Ho Fo F H : Hp} {L : List Cell} : ∀ {xs : List PyData} {vs : List V}, vs.length = xs.length → EnvF K Ho Fo F H (cells (xs.map .d) (vs.map some) ++ L) → RpAll F vs xs
  | [], [], _, _ => .nil
  | [], _ :: _, h, _ => by simp at h
  | _ :: _, [], h, _ => by simp at h
  | x :: xs, v :: vs, h, E => by
    obtain ⟨w, e1, h1⟩ := E.ok _ List.mem_cons_self
    cases e1
    exact .cons h1 (cells_ds (by simpa using h) E.tail)
theorem cells_fs {K : Frag} {Ho Fo F H : Hp} {L : List Cell} : ∀ {xs : List PyData} {vs : List V}, vs.length = xs.length → EnvF K Ho Fo F H (cells (xs.map .f) (vs.map some) ++ L) → RpAll (cut Ho F) vs xs
  | [], [], _, _ => .nil
  | [], _ :: _, h, _ => by simp at h
  | _ :: _, [], h, _ => by simp at h
  | x :: xs, v :: vs, h, E => by
    obtain ⟨w, e1, h1⟩ := E.ok _ List.mem_cons_self
    cases e1
    exact .cons h1 (cells_fs (by simpa using h) E.tail)
theorem env_drop {K : Frag} {Ho Fo H : Hp} {L : List Cell} (ks : List Cell) (E : Env K Ho Fo (ks ++ L) H) : Env K Ho Fo L H := E.sub (List.sublist_append_right _ _)
theorem de_lst {xs : List PyData} (h : DA X es ρ (xs.map .d)) (hz : xs.length ≤ 100000 := by (first | exact (by decide) | (simp; done))) : DE X (.List es pos) ρ (.ok (.o xs)) := fun W hW Ho Fo σ τ H Q hl E hQ =>
  tE_of (pe_lst pa_) (h W hW Ho Fo σ τ H _ hl E fun vs H1 e1 E1 => ⟨by rw [e1, List.length_map]; exact Nat.le_trans hz (by decide), fun p hp => hQ _ _ (by
    have E2 : Env X.K Ho Fo (cells (xs.map .d) (vs.map some) ++ (cells ρ σ ++ τ)) H1 := E1.perm (by rw [← List.append_assoc, ← List.append_assoc]; exact List.Perm.append_right _ List.perm_append_comm)
    have E3 := E2.newL (xs := xs) hp fun F e => cells_ds (by simpa using e1) e
    have E4 : Env X.K Ho Fo ((.o xs, some (.ref p)) :: (cells ρ σ ++ τ)) (upd H1 p (.lst vs)) := E3.sub ((List.sublist_append_right _ _).cons_cons _)
    exact E4.unmid)⟩)
theorem de_tup {xs : List PyData} {kk : Nat} (h : DA X es ρ (xs.map .d)) (hz : xs.length ≤ 100000 := by (first | exact (by decide) | (simp; done))) : DE X (.Tuple es kk pos) ρ (.ok (.d (.tuple xs))) := fun W hW Ho Fo σ τ H Q hl E hQ =>
  tE_of (pe_tup pa_) (h W hW Ho Fo σ τ H _ hl E fun vs H1 e1 E1 => ⟨by rw [e1, List.length_map]; exact Nat.le_trans hz (by decide), fun p hp => hQ _ _ (by
    have E2 : Env X.K Ho Fo (cells (xs.map .d) (vs.map some) ++ (cells ρ σ ++ τ)) H1 := E1.perm (by rw [← List.append_assoc, ← List.append_assoc]; exact List.Perm.append_right _ List.perm_append_comm)
    have E3 := E2.newT (xs := xs) hp fun F e => cells_ds (by simpa using e1) e
    have E4 : Env X.K Ho Fo ((.d (.tuple xs), some (.ref p)) :: (cells ρ σ ++ τ)) (upd H1 p (.tup vs)) := E3.sub ((List.sublist_append_right _ _).cons_cons _)
    exact E4.unmid)⟩)
theorem Env.newTF {K : Frag} {Ho Fo H : Hp} {L : List Cell} {p : Addr} {vs : List V} {xs : List PyData} (E : Env K Ho Fo L H) (hp : H p = none) (h : ∀ F, EnvF K Ho Fo F H L → RpAll (cut Ho F) vs xs) : Env K Ho Fo ((.f (.tuple xs), some (.ref p)) :: L) (upd H p (.tup vs)) := by
  obtain ⟨F, e⟩ := E
  have hF : F p = none := e.inn.free hp
  refine ⟨upd F p (.tup vs), (e.lay hp).consN ⟨.ref p, rfl, .tup ?_ (dps_mono (cut_mono (Same.refl _) fun b u q => ?_) (h F e))⟩ rfl⟩
  · unfold cut
    rw [if_pos (e.sH.free hp), upd_same]
  · rw [upd_ne (ne_of_none q hF)]; exact q
theorem de_tupF {xs : List PyData} {kk : Nat} (h : DA X es ρ (xs.map .f)) (hz : xs.length ≤ 100000 := by (first | exact (by decide) | (simp; done))) : DE X (.Tuple es kk pos) ρ (.ok (.f (.tuple xs))) := fun W hW Ho Fo σ τ H Q hl E hQ =>
  tE_of (pe_tup pa_) (h W hW Ho Fo σ τ H _ hl E fun vs H1 e1 E1 => ⟨by rw [e1, List.length_map]; exact Nat.le_trans hz (by decide), fun p hp => hQ _ _ (by
    have E2 : Env X.K Ho Fo (cells (xs.map .f) (vs.map some) ++ (cells ρ σ ++ τ)) H1 := E1.perm (by rw [← List.append_assoc, ← List.append_assoc]; exact List.Perm.append_right _ List.perm_append_comm)
    have E3 := E2.newTF (xs := xs) hp fun F e => cells_fs (by simpa using e1) e
    have E4 : Env X.K Ho Fo ((.f (.tuple xs), some (.ref p)) :: (cells ρ σ ++ τ)) (upd H1 p (.tup vs)) := E3.sub ((List.sublist_append_right _ _).cons_cons _)
    exact E4.unmid)⟩)

def RC (K : Frag) (r : List V → Hp → VK → Prop) (ks : List Sl) (k : Sl) : Prop := ∀ (Ho Fo : Hp) (L : List Cell) (vs : List V) (H : Hp) (Q : VK), vs.length = ks.length → Env K Ho Fo (cells ks (vs.map some) ++ L) H → (∀ z H', Env K Ho Fo ((k, some z) :: L) H' → Q z H') → r vs H Q
theorem de_cB {ks : List Sl} {r : List V → Hp → VK → Prop} (hp : ∀ ta, PA X es ta → PE X e (tCB r ta)) (ha : DA X es ρ ks) (hr : RC X.K r ks k) : DE X e ρ (.ok k) := fun W hW Ho Fo σ τ H Q hl E hQ =>
  tE_of (hp _ pa_) (ha W hW Ho Fo σ τ H _ hl E fun vs H1 e1 E1 => hr Ho Fo (cells ρ σ ++ τ) vs H1 Q e1 (E1.perm (by rw [← List.append_assoc, ← List.append_assoc]; exact List.Perm.append_right _ List.perm_append_comm)) fun z H' E' => hQ z H' E'.unmid)
theorem de_callB {ks : List Sl} {r : List V → Hp → VK → Prop} {id : String} {p : Pos} (hc : CallR X (.builtin id) r) (hm : X.mg n = none) (hv : bootBuiltins n = some (.builtin id)) (ha : DA X (e :: es) ρ ks) (hr : RC X.K r ks k) (hg : Gl X n := by rfl) (hn : n ≠ "__name__" := by decide) (hdb : (n == ("__debug__" : Str)) = false := by decide)
    (he : starEach (e :: es) X.env = (false, eval e X.env) :: starEach es X.env := by rfl) (hpl : (backTo pos (starEach es X.env)).any (·.1) = false := by rfl) : DE X (.Call (.Name n p) (e :: es) [] pos) ρ (.ok k) :=
  de_cB (fun _ h => pe_callB hc hg hm hv h hn hdb he hpl) ha hr
theorem de_callTy {ks : List Sl} {r : List V → Hp → VK → Prop} {T : String} {p : Pos} (hc : CallR X (.type T) r) (hm : X.mg n = none) (hv : bootBuiltins n = some (.type T)) (ha : DA X (e :: es) ρ ks) (hr : RC X.K r ks k) (hg : Gl X n := by rfl) (hn : n ≠ "__name__" := by decide) (hdb : (n == ("__debug__" : Str)) = false := by decide)
    (he : starEach (e :: es) X.env = (false, eval e X.env) :: starEach es X.env := by rfl) (hpl : (backTo pos (starEach es X.env)).any (·.1) = false := by rfl) : DE X (.Call (.Name n p) (e :: es) [] pos) ρ (.ok k) :=
  de_cB (fun _ h => pe_callTy hc hg hm hv h hn hdb he hpl) ha hr
theorem rc_one {K : Frag} {r : List V → Hp → VK → Prop} (h : ∀ (Ho Fo : Hp) (L : List Cell) (v : V) (H : Hp) (Q : VK), Env K Ho Fo ((.d x, some v) :: L) H → (∀ z H', Env K Ho Fo ((k, some z) :: L) H' → Q z H') → r [v] H Q) : RC K r [.d x] k := fun Ho Fo L vs H Q hl E hQ => by
  match vs, hl with
  | [v], _ => exact h Ho Fo L v H Q E hQ
theorem de_len {xs : List PyData} {p : Pos} (hm : X.mg "len" = none) (ha : DE X e ρ (.ok (.d (.list xs)))) (hg : Gl X "len" := by rfl) (hs : starEach [e] X.env = (false, eval e X.env) :: starEach [] X.env := by rfl) : DE X (.Call (.Name "len" p) [e] [] pos) ρ (.ok (.d (.int xs.length))) :=
  de_callB call_len_seq hm PySem.boot_len (da_cons ha da_nil hs) (rc_one fun Ho Fo L v H Q E hQ => by
    obtain ⟨w, e1, h1⟩ := E.fget List.mem_cons_self
    cases e1
    cases h1 with
    | lst hs hd =>
      refine ⟨_, _, rfl, .inl (.of hs), ?_⟩
      rw [dps_len hd]
      exact hQ _ _ (E.tail.int _)) hg (by decide) (by decide) hs
theorem de_lenT {xs : List PyData} {p : Pos} (hm : X.mg "len" = none) (ha : DE X e ρ (.ok (.d (.tuple xs)))) (hg : Gl X "len" := by rfl) (hs : starEach [e] X.env = (false, eval e X.env) :: starEach [] X.env := by rfl) : DE X (.Call (.Name "len" p) [e] [] pos) ρ (.ok (.d (.int xs.length))) :=
  de_callB call_len_seq hm PySem.boot_len (da_cons ha da_nil hs) (rc_one fun Ho Fo L v H Q E hQ => by
    obtain ⟨w, e1, h1⟩ := E.fget List.mem_cons_self
    cases e1
    cases h1 with
    | tup hs hd =>
      refine ⟨_, _, rfl, .inr (.of hs), ?_⟩
      rw [dps_len hd]
      exact hQ _ _ (E.tail.int _)) hg (by decide) (by decide) hs
theorem dps_atI {F : Hp} {vs : List V} {xs : List PyData} (h : RpAll F vs xs) (e : atI xs i = some x) : ∃ v, atI vs i = some v ∧ Rp F v x := by
  unfold atI at e ⊢
  rw [dps_len h]
  cases q : ixN xs.length i with
  | none => rw [q] at e; cases e
  | some j =>
    rw [q] at e
    exact dps_get h e
theorem rd_ixL {K : Frag} {xs : List PyData} (h : atI xs i = some x) : RD K (rIxL K) (.d (.list xs)) (.d (.int i)) (.d x) := fun Ho Fo L v w H Q E hQ => by
  obtain ⟨F, E⟩ := E
  obtain ⟨v', e1, h1⟩ := E.ok _ List.mem_cons_self
  obtain ⟨w', e2, h2⟩ := E.ok _ (List.mem_cons_of_mem _ List.mem_cons_self)
  cases e1; cases e2
  cases dp_int h2
  cases h1 with
  | lst hs hd =>
    obtain ⟨u, h3, h4⟩ := dps_atI hd h
    exact ⟨_, _, i, u, rfl, rfl, E.inn.seq (.of hs), h3, hQ _ _ ⟨F, E.tail.tail.consN ⟨u, rfl, h4⟩ rfl⟩⟩
theorem sqT_mono {K : Frag} {F F' : Hp} {a : Addr} {xs : List V} (e : Same F F') (h : SqT K F a xs) : SqT K F' a xs := by
  rcases h with (h | ⟨o, h⟩) | h
  · exact .inl (.inl (e _ _ h))
  · exact .inl (.inr ⟨o, e _ _ h⟩)
  · exact .inr h
theorem rd_ixT {K : Frag} {xs : List PyData} (h : atI xs i = some x) : RD K (rIxT K) (.d (.tuple xs)) (.d (.int i)) (.d x) := fun Ho Fo L v w H Q E hQ => by
  obtain ⟨F, E⟩ := E
  obtain ⟨v', e1, h1⟩ := E.ok _ List.mem_cons_self
  obtain ⟨w', e2, h2⟩ := E.ok _ (List.mem_cons_of_mem _ List.mem_cons_self)
  cases e1; cases e2
  cases dp_int h2
  cases h1 with
  | tup hs hd =>
    obtain ⟨u, h3, h4⟩ := dps_atI hd h
    exact ⟨_, _, i, u, rfl, rfl, sqT_mono E.inn (.of hs), h3, hQ _ _ ⟨F, E.tail.tail.consN ⟨u, rfl, h4⟩ rfl⟩⟩
theorem de_ixL {xs : List PyData} (ha : DE X a ρ (.ok (.d (.list xs)))) (hb : DE X b ρ (.ok (.d (.int i)))) (h : atI xs i = some x) (hs : PlainIx b := by exact fun _ _ => rfl) : DE X (.Subscript a b pos) ρ (.ok (.d x)) := de_sub ix_list ha hb (rd_ixL h) hs
theorem de_ixT {xs : List PyData} (ha : DE X a ρ (.ok (.d (.tuple xs)))) (hb : DE X b ρ (.ok (.d (.int i)))) (h : atI xs i = some x) (hs : PlainIx b := by exact fun _ _ => rfl) : DE X (.Subscript a b pos) ρ (.ok (.d x)) := de_sub ix_tup ha hb (rd_ixT h) hs
theorem rd_fresh {K : Frag} {r : R2} {xs : List PyData} (h : ∀ (Ho Fo F : Hp) (L : List Cell) (v w : V) (H : Hp) (Q : VK), EnvF K Ho Fo F H ((k1, some v) :: (k2, some w) :: L) → (∀ vs, RpAll F vs xs → ∀ p, H p = none → Q (.ref p) (upd H p (.lst vs))) → r v w H Q) : RD K r k1 k2 (.o xs) := fun Ho Fo L v w H Q E hQ => by
  obtain ⟨F, e⟩ := E
  refine h Ho Fo F L v w H Q e fun vs hv p hp => hQ _ _ ?_
  obtain ⟨F2, e2⟩ := Env.newL (L := L) (xs := xs) (vs := vs) (Ho := Ho) (Fo := F) (K := K) (H := H) ⟨F, e.sH, Same.refl _, e.inn, fun b o q => .inl q, e.tail.tail.ok, e.tail.tail.nd, e.tail.tail.no⟩ hp fun F' e' => dps_mono e'.sF hv
  exact ⟨F2, e2.sH, e.sF.trans e2.sF, e2.inn, fun b o q => (e2.nw b o q).elim (e.nw b o) .inr, e2.ok, e2.nd, e2.no⟩
theorem de_cat {xs ys : List PyData} (ha : DE X a ρ (.ok (.d (.list xs)))) (hb : DE X b ρ (.ok (.d (.list ys)))) (hz : xs.length + ys.length ≤ 100000 := by simp) : DE X (.BinOp a .Add b pos) ρ (.ok (.o (xs ++ ys))) := de_op op_cat ha hb (rd_fresh fun Ho Fo F L v w H Q E hQ => by
  obtain ⟨v', e1, h1⟩ := E.ok _ List.mem_cons_self
  obtain ⟨w', e2, h2⟩ := E.ok _ (List.mem_cons_of_mem _ List.mem_cons_self)
  cases e1; cases e2
  cases h1 with
  | lst ha da =>
    cases h2 with
    | lst hb db => exact ⟨_, _, _, _, rfl, rfl, E.inn _ _ ha, E.inn _ _ hb, by rw [dps_len da, dps_len db]; exact Nat.le_trans hz (by decide), hQ _ (dps_app da db)⟩)
end
end DL

namespace DL
open PySem PySem.Spec PyProof.Rows L2
inductive WkS : Sl → Sl → Prop
  | rfl {s : Sl} : WkS s s
  | u {s : Sl} : WkS s .u
  | f {x : PyData} : WkS (.f x) (.d x)
  | o {xs : List PyData} : WkS (.o xs) (.d (.list xs))
inductive Wk : List Sl → List Sl → Prop
  | nil : Wk [] []
  | cons {s s' : Sl} {ρ ρ' : List Sl} : WkS s s' → Wk ρ ρ' → Wk (s :: ρ) (s' :: ρ')
theorem Wk.refl : ∀ ρ : List Sl, Wk ρ ρ
  | [] => .nil
  | _ :: ρ => .cons .rfl (Wk.refl ρ)
theorem Wk.len : ∀ {ρ ρ' : List Sl}, Wk ρ ρ' → ρ.length = ρ'.length
  | _, _, .nil => rfl
  | _, _, .cons _ t => congrArg (· + 1) (Wk.len t)
section
variable {K : Frag} {Ho Fo H : Hp}
theorem env_wk : ∀ {ρ ρ' : List Sl} {σ : St} {τ : List Cell}, Wk ρ ρ' → σ.length = ρ.length → Env K Ho Fo (cells ρ σ ++ τ) H → Env K Ho Fo (cells ρ' σ ++ τ) H
  | _, _, σ, τ, .nil, _, E => by
    match σ with
    | [] => exact E
  | s :: ρ, s' :: ρ', σ, τ, .cons h t, hl, E => by
    match σ, hl with
    | v :: σ, hl =>
      have E1 : Env K Ho Fo ((s, v) :: (cells ρ σ ++ τ)) H := E
      have E2 : Env K Ho Fo ((s', v) :: (cells ρ σ ++ τ)) H := by
        cases h with
        | rfl => exact E1
        | u =>
          obtain ⟨F, e⟩ := E1
          exact ⟨F, e.tail.consN trivial rfl⟩
        | f =>
          obtain ⟨F, e⟩ := E1
          obtain ⟨w, e1, _⟩ := e.ok _ List.mem_cons_self
          simp only at e1
          subst e1
          exact Env.toD ⟨F, e⟩
        | o =>
          obtain ⟨F, e⟩ := E1
          obtain ⟨p, vs, e1, _⟩ := e.ok _ List.mem_cons_self
          simp only at e1
          subst e1
          exact Env.freeze ⟨F, e⟩
      have E3 : Env K Ho Fo (cells ρ σ ++ ((s', v) :: τ)) H := E2.unmid
      exact (env_wk t (by simpa using hl) E3).mid
end
section
variable {X : Cx} {a b c e f : Expr} {es : List Expr} {ρ ρ' ρ'' ρ1 ρ2 : List Sl} {pos apos : Pos} {x y z : PyData} {k k1 k2 : Sl} {n : Str} {i j : Int} {cl : Value} {st : Stmt} {sts sts' rest : List Stmt} {r : Out}
theorem ds_pre (w : Wk ρ ρ') (h : DS X st ρ' r) : DS X st ρ r := fun W hW Ho Fo σ τ H D hl E hQ => h W hW Ho Fo σ τ H D (hl.trans w.len) (env_wk w hl E) hQ
theorem dss_pre (w : Wk ρ ρ') (h : DSs X sts ρ' r) : DSs X sts ρ r := fun W hW Ho Fo σ τ H D hl E hQ => h W hW Ho Fo σ τ H D (hl.trans w.len) (env_wk w hl E) hQ
theorem ds_post (h : DS X st ρ (.nx ρ1)) (w : Wk ρ1 ρ2) : DS X st ρ (.nx ρ2) := fun W hW Ho Fo σ τ H D hl E hQ => h W hW Ho Fo σ τ H D hl E fun σ' H' hl' E' => hQ σ' H' (hl'.trans w.len) (env_wk w hl' E')
theorem dss_post (h : DSs X sts ρ (.nx ρ1)) (w : Wk ρ1 ρ2) : DSs X sts ρ (.nx ρ2) := fun W hW Ho Fo σ τ H D hl E hQ => h W hW Ho Fo σ τ H D hl E fun σ' H' hl' E' => hQ σ' H' (hl'.trans w.len) (env_wk w hl' E')
theorem dss_nil : DSs X [] ρ (.nx ρ) := fun W hW Ho Fo σ τ H D hl E hQ => tSs_of pss_nil (hQ σ H hl E)
theorem dss_cons (h1 : DS X st ρ (.nx ρ1)) (h2 : DSs X sts ρ1 r) : DSs X (st :: sts) ρ r := fun W hW Ho Fo σ τ H D hl E hQ =>
  tSs_of (pss_cons ps_ pss_) (h1 W hW Ho Fo σ τ H _ hl E fun σ' H' hl' E' => h2 W hW Ho Fo σ' τ H' D hl' E' hQ)
theorem dss_one (h1 : DS X st ρ r) : DSs X [st] ρ r := fun W hW Ho Fo σ τ H D hl E hQ => tSs_of (pss_one ps_) (h1 W hW Ho Fo σ τ H _ hl E hQ)
def Ends_ : Out → Prop
  | .nx _ => False
  | _ => True
theorem dss_end (h1 : DS X st ρ r) (he : Ends_ r := by trivial) : DSs X (st :: sts) ρ r := fun W hW Ho Fo σ τ H D hl E hQ =>
  tSs_of (pss_cons ps_ pss_) (h1 W hW Ho Fo σ τ H _ hl E (by
    cases r with
    | nx _ => exact he.elim
    | rt _ => exact hQ
    | bk _ => exact hQ
    | ct _ => exact hQ
    | ex _ _ => exact hQ))
theorem ds_set (i : Nat) {p : Pos} (h : DE X e ρ (.ok k)) (hi : X.N[i]? = some n := by rfl) (hlt : i < ρ.length := by (first | exact (by decide) | (simp; done))) (hx : Loc X.env.scope n := by first | exact Or.inl rfl | exact Or.inr rfl) (hs : swapsWith e (some (.Name n p)) pos.line X.env = pure false := by rfl)
    (hf : X.fn n = true ∨ X.env.scope.names.lookup n = some .local := by first | exact .inl rfl | exact .inr rfl) : DS X (.Assign [.Name n p] e pos) ρ (.nx (ρ.set i k)) := fun W hW Ho Fo σ τ H D hl E hQ =>
  tS_of (ps_set hW.2.2 hi hx pe_ hs hf) (h W hW Ho Fo σ τ H _ hl E fun v H' E' => hQ _ _ (by rw [List.length_set, List.length_set]; exact hl) (E'.mid.push hl hlt))
theorem ds_setX (i : Nat) {p : Pos} (h : DE X e ρ (.ex cl)) (hi : X.N[i]? = some n := by rfl) (hx : Loc X.env.scope n := by first | exact Or.inl rfl | exact Or.inr rfl) (hs : swapsWith e (some (.Name n p)) pos.line X.env = pure false := by rfl)
    (hf : X.fn n = true ∨ X.env.scope.names.lookup n = some .local := by first | exact .inl rfl | exact .inr rfl) : DS X (.Assign [.Name n p] e pos) ρ (.ex cl ρ) := fun W hW Ho Fo σ τ H D hl E hQ =>
  tS_of (ps_set hW.2.2 hi hx pe_ hs hf) (h W hW Ho Fo σ τ H _ hl E fun H' E' => hQ _ _ hl E')
theorem ds_expr (h : DE X e ρ (.ok k)) (hs : swapsWith e none pos.line X.env = pure false := by rfl) : DS X (.Expr e pos) ρ (.nx ρ) := fun W hW Ho Fo σ τ H D hl E hQ =>
  tS_of (ps_expr pe_ hs) (h W hW Ho Fo σ τ H _ hl E fun v H' E' => hQ _ _ hl E'.mid.tail)
theorem ds_exprX (h : DE X e ρ (.ex cl)) (hs : swapsWith e none pos.line X.env = pure false := by rfl) : DS X (.Expr e pos) ρ (.ex cl ρ) := fun W hW Ho Fo σ τ H D hl E hQ =>
  tS_of (ps_expr pe_ hs) (h W hW Ho Fo σ τ H _ hl E fun H' E' => hQ _ _ hl E')
theorem ds_ret (h : DE X e ρ (.ok k)) : DS X (.Return (some e) pos) ρ (.rt k) := fun W hW Ho Fo σ τ H D hl E hQ =>
  tS_of (ps_ret pe_) (h W hW Ho Fo σ τ H _ hl E fun v H' E' => hQ _ _ (E'.sub (List.sublist_append_right _ _)))
theorem ds_retX (h : DE X e ρ (.ex cl)) : DS X (.Return (some e) pos) ρ (.ex cl ρ) := fun W hW Ho Fo σ τ H D hl E hQ =>
  tS_of (ps_ret pe_) (h W hW Ho Fo σ τ H _ hl E fun H' E' => hQ _ _ hl E')
theorem ds_retO (i : Nat) {xs : List PyData} (h : ρ[i]? = some (.o xs)) (hN : X.N[i]? = some n := by rfl) (hv : Vis X.env.scope n := by first | exact Or.inl rfl | exact Or.inr (Or.inl rfl)) (hd : (n == ("__debug__" : Str)) = false := by decide)
    (hcd : (n == ("__classdict__" : Str)) = false := by decide) {p : Pos} : DS X (.Return (some (.Name n p)) pos) ρ (.rt (.o xs)) := fun W hW Ho Fo σ τ H D hl E hQ => by
  obtain ⟨v, h1, h2⟩ := cells_at hl h
  have h3 : ∃ w, v = some w := by
    obtain ⟨F, e⟩ := E
    obtain ⟨p, vs, e1, _⟩ := e.ok _ (List.mem_append_left _ h2)
    exact ⟨_, e1⟩
  obtain ⟨w, rfl⟩ := h3
  refine tS_of (ps_ret (pe_var hN hv hd hcd)) ⟨w, h1, hQ _ _ ?_⟩
  exact (E.pull hl h h1).sub ((List.sublist_append_right _ _).cons_cons _)
theorem ds_if {q : Bool} (hc : DT X c ρ (.ok q)) (ha : q = true → DSs X sts ρ r) (hb : q = false → DSs X sts' ρ r) : DS X (.If c sts sts' pos) ρ r := fun W hW Ho Fo σ τ H D hl E hQ =>
  tS_of (ps_if pt_ pss_ pss_) (hc W hW Ho Fo σ τ H _ hl E fun H' E' => by
    cases q with
    | true => rw [if_pos rfl]; exact ha rfl W hW Ho Fo σ τ H' D hl E' hQ
    | false => rw [if_neg Bool.false_ne_true]; exact hb rfl W hW Ho Fo σ τ H' D hl E' hQ)
theorem ds_ifX (hc : DT X c ρ (.ex cl)) : DS X (.If c sts sts' pos) ρ (.ex cl ρ) := fun W hW Ho Fo σ τ H D hl E hQ =>
  tS_of (ps_if pt_ pss_ pss_) (hc W hW Ho Fo σ τ H _ hl E fun H' E' => hQ _ _ hl E')
theorem ds_raise {bmB : List Value} {B newId initId : String} {m : Str} {jj : Nat} {p p2 p3 : Pos} {C : Addr} (hc : X.calm = true) (F : ExcBaseFacts B newId initId bmB) (q : PySem.W.excIn X.K C bmB newId = true) (gC : X.mg n = some (.ref C)) (kC : PySem.W.keepIn X.K (.ref C) = true) (rs : Raises X (.ref C)) (hg : Gl X n := by rfl)
    (hdb : (n == ("__debug__" : Str)) = false := by decide) : DS X (.Raise (some (.Call (.Name n p) [.Constant (.str m) jj p2] [] p3)) none pos) ρ (.ex (.ref C) ρ) := fun W hW Ho Fo σ τ H D hl E hQ =>
  tS_of (L2N.ps_raise hc hW.1 (L2N.pmk_own F q gC kC rs hg hdb)) (hQ σ H hl E)

section
variable {ii jj : Nat} {xs ys : List PyData} {pn : Pos} {cpos : Pos}
theorem own_at {K : Frag} {Ho Fo H : Hp} {σ : St} {τ : List Cell} (hl : σ.length = ρ.length) (h : ρ[ii]? = some (.o xs)) (E : Env K Ho Fo (cells ρ σ ++ τ) H) : ∃ p vs, σ[ii]? = some (some (.ref p)) ∧ H p = some (.lst vs) ∧ vs.length = xs.length := by
  obtain ⟨v, h1, h2⟩ := cells_at hl h
  obtain ⟨F, e⟩ := E
  obtain ⟨p, vs, e1, e2, e3⟩ := e.ok _ (List.mem_append_left _ h2)
  simp only at e1
  subst e1
  exact ⟨p, vs, h1, e2, dps_len e3⟩
theorem own_mut {K : Frag} {Ho Fo H : Hp} {σ : St} {τ : List Cell} {p : Addr} {vs vs' : List V} {xs' : List PyData} (hl : σ.length = ρ.length) (h : ρ[ii]? = some (.o xs)) (hσ : σ[ii]? = some (some (.ref p))) (E : Env K Ho Fo (cells ρ σ ++ τ) H) (hv : H p = some (.lst vs))
    (hx : ∀ F, EnvF K Ho Fo F H (cells ρ σ ++ τ) → RpAll F vs xs → RpAll F vs' xs') : Env K Ho Fo (cells (ρ.set ii (.o xs')) σ ++ τ) (upd H p (.lst vs')) := by
  have hlt : ii < ρ.length := (List.getElem?_eq_some_iff.mp h).1
  obtain ⟨F, e⟩ := E
  have E1 : EnvF K Ho Fo F H ((.o xs, some (.ref p)) :: (cells (ρ.set ii .u) σ ++ τ)) := by
    obtain ⟨M, h1, h2⟩ := cells_pull hl h hσ
    have e2 := e.perm (h1.append_right τ)
    have e3 : EnvF K Ho Fo F H ((Sl.u, some (.ref p)) :: (.o xs, some (.ref p)) :: (M ++ τ)) := e2.consN trivial rfl
    exact e3.perm ((List.Perm.swap _ _ _).trans (List.Perm.cons _ (h2.symm.append_right τ)))
  have E2 : EnvF K Ho Fo F (upd H p (.lst vs')) ((.o xs', some (.ref p)) :: (cells (ρ.set ii .u) σ ++ τ)) := by
    obtain ⟨p', vs2, e1, e2, e3⟩ := E1.ok _ List.mem_cons_self
    cases e1
    rw [hv] at e2
    cases e2
    exact E1.mutF (hx F e e3)
  have E3 : Env K Ho Fo (cells ((ρ.set ii .u).set ii (.o xs')) (σ.set ii (some (.ref p))) ++ τ) (upd H p (.lst vs')) := Env.push ⟨F, E2⟩ (by rw [List.length_set]; exact hl) (by rw [List.length_set]; exact hlt)
  rw [List.set_set, set_same hσ] at E3
  exact E3
theorem ds_append (ii : Nat) (h : ρ[ii]? = some (.o xs)) (he : DE X e ρ (.ok (.d y))) (hz : xs.length < 100000 := by (first | exact (by decide) | (simp; done))) (hN : X.N[ii]? = some n := by rfl) (hv : Vis X.env.scope n := by first | exact Or.inl rfl | exact Or.inr (Or.inl rfl)) (hd : (n == ("__debug__" : Str)) = false := by decide)
    (hcd : (n == ("__classdict__" : Str)) = false := by decide) (hbase : attributeBase (.Name n pn) "append" X.env (eval (.Name n pn) X.env) = eval (.Name n pn) X.env := by rfl)
    (hfew : ((backTo cpos (starEach (e :: []) X.env)).all (fun x => !x.1) && (backToKw cpos (keywordEach [] X.env)).all (fun x => x.1.isSome)
      && decide ((e :: []).length + ([] : List Keyword).length + (if ([] : List Keyword).isEmpty then 0 else 1) < 30)) = true := by rfl)
    (hline : (apos.endLine == cpos.line) = true := by rfl) (hs : starEach (e :: []) X.env = (false, eval e X.env) :: starEach [] X.env := by rfl) (hplain : (backTo cpos (starEach [] X.env)).any (·.1) = false := by rfl) (hsw : swapsWith (.Call (.Attribute (.Name n pn) "append" apos) [e] [] cpos) none pos.line X.env = pure false := by rfl) :
    DS X (.Expr (.Call (.Attribute (.Name n pn) "append" apos) [e] [] cpos) pos) ρ (.nx (ρ.set ii (.o (xs ++ [y])))) := fun W hW Ho Fo σ τ H D hl E hQ => by
  obtain ⟨p, vs, h1, h2, h3⟩ := own_at hl h E
  refine tS_of (ps_expr (pe_bm PySem.F.plainAttrs_list PySem.F.slot_list_append PySem.F.type_list_append mt_append (pe_var hN hv hd hcd) (pa_cons pe_ pa_nil hs) hbase hfew hline hs hplain) hsw) ?_
  refine ⟨.ref p, h1, .inl ⟨rfl, _, .of h2⟩, he W hW Ho Fo σ τ H _ hl E fun w H1 E1 => ?_⟩
  obtain ⟨p', vs1, g1, g2, g3⟩ := own_at hl h E1
  rw [h1] at g1
  cases g1
  refine ⟨p, vs1, w, rfl, rfl, g2, by rw [g3]; exact Nat.lt_of_lt_of_le hz (by decide), ?_⟩
  refine hQ σ _ (by rw [List.length_set]; exact hl) ?_
  have E2 := own_mut (xs' := xs ++ [y]) (vs' := vs1 ++ [w]) hl h h1 E1 g2 fun F e hr => by
    obtain ⟨w', q1, q2⟩ := e.ok (Sl.d y, some w) (List.mem_append_right _ List.mem_cons_self)
    cases q1
    exact dps_app hr (.cons q2 .nil)
  exact E2.sub ((List.sublist_cons_self _ _).append_left _)
theorem ds_appendPop {n2 : Str} {pn2 apos2 cpos2 : Pos} {kk : Nat} (ii jj : Nat) (h : ρ[ii]? = some (.o xs)) (h' : ρ[jj]? = some (.o ys)) (hij : ii ≠ jj) (he : DE X e ρ (.ok (.d (.int i)))) (hk : i = (kk : Int)) (hy : ys[kk]? = some y) (hz : xs.length < 100000 := by (first | exact (by decide) | (simp; done))) (hz2 : ys.length ≤ 100000 := by (first | exact (by decide) | (simp; done)))
    (hN : X.N[ii]? = some n := by rfl) (hv : Vis X.env.scope n := by first | exact Or.inl rfl | exact Or.inr (Or.inl rfl)) (hd : (n == ("__debug__" : Str)) = false := by decide)
    (hcd : (n == ("__classdict__" : Str)) = false := by decide)
    (hN2 : X.N[jj]? = some n2 := by rfl) (hv2 : Vis X.env.scope n2 := by first | exact Or.inl rfl | exact Or.inr (Or.inl rfl)) (hd2 : (n2 == ("__debug__" : Str)) = false := by decide)
    (hcd2 : (n2 == ("__classdict__" : Str)) = false := by decide)
    (hbase2 : attributeBase (.Name n2 pn2) "pop" X.env (eval (.Name n2 pn2) X.env) = eval (.Name n2 pn2) X.env := by rfl)
    (hfew2 : ((backTo cpos2 (starEach (e :: []) X.env)).all (fun x => !x.1) && (backToKw cpos2 (keywordEach [] X.env)).all (fun x => x.1.isSome)
      && decide ((e :: []).length + ([] : List Keyword).length + (if ([] : List Keyword).isEmpty then 0 else 1) < 30)) = true := by rfl)
    (hline2 : (apos2.endLine == cpos2.line) = true := by rfl) (hs2 : starEach (e :: []) X.env = (false, eval e X.env) :: starEach [] X.env := by rfl) (hplain2 : (backTo cpos2 (starEach [] X.env)).any (·.1) = false := by rfl)
    (hbase : attributeBase (.Name n pn) "append" X.env (eval (.Name n pn) X.env) = eval (.Name n pn) X.env := by rfl)
    (hfew : ((backTo cpos (starEach (.Call (.Attribute (.Name n2 pn2) "pop" apos2) [e] [] cpos2 :: []) X.env)).all (fun x => !x.1) && (backToKw cpos (keywordEach [] X.env)).all (fun x => x.1.isSome)
      && decide ((Expr.Call (.Attribute (.Name n2 pn2) "pop" apos2) [e] [] cpos2 :: []).length + ([] : List Keyword).length + (if ([] : List Keyword).isEmpty then 0 else 1) < 30)) = true := by rfl)
    (hline : (apos.endLine == cpos.line) = true := by rfl) (hs : starEach (.Call (.Attribute (.Name n2 pn2) "pop" apos2) [e] [] cpos2 :: []) X.env = (false, eval (.Call (.Attribute (.Name n2 pn2) "pop" apos2) [e] [] cpos2) X.env) :: starEach [] X.env := by rfl) (hplain : (backTo cpos (starEach [] X.env)).any (·.1) = false := by rfl)
    (hsw : swapsWith (.Call (.Attribute (.Name n pn) "append" apos) [.Call (.Attribute (.Name n2 pn2) "pop" apos2) [e] [] cpos2] [] cpos) none pos.line X.env = pure false := by rfl) :
    DS X (.Expr (.Call (.Attribute (.Name n pn) "append" apos) [.Call (.Attribute (.Name n2 pn2) "pop" apos2) [e] [] cpos2] [] cpos) pos) ρ (.nx ((ρ.set jj (.o (ys.eraseIdx kk))).set ii (.o (xs ++ [y])))) := fun W hW Ho Fo σ τ H D hl E hQ => by
  obtain ⟨p, vs, h1, h2, h3⟩ := own_at hl h E
  obtain ⟨q, us, k1, k2, k3⟩ := own_at hl h' E
  refine tS_of (ps_expr (pe_bm PySem.F.plainAttrs_list PySem.F.slot_list_append PySem.F.type_list_append mt_append (pe_var hN hv hd hcd) (pa_cons (pe_bm PySem.F.plainAttrs_list PySem.F.slot_list_pop PySem.F.type_list_pop mt_popAt (pe_var hN2 hv2 hd2 hcd2) (pa_cons pe_ pa_nil hs2) hbase2 hfew2 hline2 hs2 hplain2) pa_nil hs) hbase hfew hline hs hplain) hsw) ?_
  refine ⟨.ref p, h1, .inl ⟨rfl, _, .of h2⟩, .ref q, k1, .inl ⟨rfl, _, .of k2⟩, he W hW Ho Fo σ τ H _ hl E fun w H1 E1 => ?_⟩
  obtain ⟨w', q1, q2⟩ := E1.fget (List.mem_append_right _ List.mem_cons_self)
  cases q1
  cases dp_int q2
  obtain ⟨q', us1, m1, m2, m3⟩ := own_at hl h' E1
  rw [k1] at m1
  cases m1
  have hkl : kk < ys.length := (List.getElem?_eq_some_iff.mp hy).1
  have hB : (us1.length : Int) ≤ 100000 := by rw [m3]; omega
  have hu : us1[kk]? = some us1[kk] := List.getElem?_eq_getElem (by omega)
  refine ⟨q, us1, i, kk, us1[kk], rfl, rfl, m2, by omega, by omega, ?_, hu, ?_⟩
  · rw [hk]
    unfold seqIndex?
    have z : ¬ ((kk : Int) < 0) := by omega
    simp only [z, if_false, Int.toNat_natCast]
    first
      | (rw [if_pos (by omega)])
      | (simp; omega)
  · have ey : ∀ F, EnvF X.K Ho Fo F H1 (cells ρ σ ++ (Sl.d (.int i), some (.int i)) :: τ) → Rp F us1[kk] y := fun F e => by
      obtain ⟨v0, g1, g2⟩ := cells_at hl h'
      rw [k1] at g1
      cases g1
      obtain ⟨p0, vs0, r1, r2, r3⟩ := e.ok _ (List.mem_append_left _ g2)
      cases r1
      rw [m2] at r2
      cases r2
      obtain ⟨v5, s1, s2⟩ := dps_get r3 hy
      rw [hu] at s1
      cases s1
      exact s2
    have E1' : Env X.K Ho Fo (cells ρ σ ++ (Sl.d y, some us1[kk]) :: τ) H1 := by
      obtain ⟨F, e⟩ := E1
      exact Env.unmid ⟨F, (e.sub ((List.sublist_cons_self _ _).append_left _)).consN ⟨us1[kk], rfl, ey F e⟩ rfl⟩
    have E2 := own_mut (xs' := ys.eraseIdx kk) (vs' := us1.eraseIdx kk) hl h' k1 E1' m2 fun F e hr => dps_erase kk hr
    have h4 : (ρ.set jj (.o (ys.eraseIdx kk)))[ii]? = some (.o xs) := by rw [List.getElem?_set_ne (Ne.symm hij)]; exact h
    have hl4 : σ.length = (ρ.set jj (.o (ys.eraseIdx kk))).length := by rw [List.length_set]; exact hl
    obtain ⟨p', vs1, g1, g2, g3⟩ := own_at hl4 h4 E2
    rw [h1] at g1
    cases g1
    refine ⟨p, vs1, us1[kk], rfl, rfl, g2, by rw [g3]; exact Nat.lt_of_lt_of_le hz (by decide), ?_⟩
    refine hQ σ _ (by rw [List.length_set]; exact hl4) ?_
    have E3 := own_mut (xs' := xs ++ [y]) (vs' := vs1 ++ [us1[kk]]) hl4 h4 h1 E2 g2 fun F e hr => by
      obtain ⟨w', q1, q2⟩ := e.ok (Sl.d y, some us1[kk]) (List.mem_append_right _ List.mem_cons_self)
      cases q1
      exact dps_app hr (.cons q2 .nil)
    exact E3.sub ((List.sublist_cons_self _ _).append_left _)
end
end
end DL

namespace DL
open PySem PySem.Spec PyProof.Rows L2
def frzS : Sl → Sl
  | .o xs => .d (.list xs)
  | .f x => .d x
  | .t _ => .u
  | s => s
theorem frz_adr (s : Sl) (v : Option V) : adr (frzS s, v) = none := by cases s <;> rfl
theorem cells_frz_adr : ∀ (ρ : List Sl) (σ : St), (cells (ρ.map frzS) σ).filterMap adr = []
  | [], _ => rfl
  | _ :: _, [] => rfl
  | s :: ρ, v :: σ => by
    show ((frzS s, v) :: cells (ρ.map frzS) σ).filterMap adr = []
    rw [List.filterMap_cons_none (frz_adr s v)]
    exact cells_frz_adr ρ σ
theorem frz_nof {x : PyData} {v : Option V} : ∀ (ρ : List Sl) (σ : St), (Sl.f x, v) ∉ cells (ρ.map frzS) σ
  | [], _, h => by cases h
  | _ :: _, [], h => by cases h
  | s :: ρ, w :: σ, h => by
    rcases List.mem_cons.mp h with e | h
    · cases s <;> cases e
    · exact frz_nof ρ σ h
section
variable {K : Frag} {Ho Fo F H : Hp}
theorem frz_all : ∀ {ρ : List Sl} {σ : St} {F : Hp} {τ : List Cell}, EnvF K Ho Fo F H (cells ρ σ ++ τ) → ∃ F', Same F F' ∧ EnvF K Ho Fo F' H (cells (ρ.map frzS) σ ++ τ)
  | [], σ, F, τ, E => ⟨F, Same.refl _, E⟩
  | s :: ρ, [], F, τ, E => ⟨F, Same.refl _, E⟩
  | s :: ρ, v :: σ, F, τ, E => by
    have E1 : EnvF K Ho Fo F H ((s, v) :: (cells ρ σ ++ τ)) := E
    have E2 : ∃ F', Same F F' ∧ EnvF K Ho Fo F' H ((frzS s, v) :: (cells ρ σ ++ τ)) := by
      cases s with
      | u => exact ⟨F, Same.refl _, E1⟩
      | d x => exact ⟨F, Same.refl _, E1⟩
      | v x => exact ⟨F, Same.refl _, E1⟩
      | q x => exact ⟨F, Same.refl _, E1⟩
      | t x => exact ⟨F, Same.refl _, E1.tail.consN trivial rfl⟩
      | f x =>
        obtain ⟨w, e1, e2⟩ := E1.ok _ List.mem_cons_self
        exact ⟨F, Same.refl _, E1.tail.consN ⟨w, e1, dp_mono cut_le e2⟩ rfl⟩
      | o xs =>
        obtain ⟨p, vs, h1, h2, h3⟩ := E1.ok _ List.mem_cons_self
        simp only at h1
        subst h1
        obtain ⟨hp, hn⟩ := E1.own
        have sF : Same F (upd F p (.lst vs)) := fun b u q => by rw [upd_ne (ne_of_none q hp.1)]; exact q
        exact ⟨upd F p (.lst vs), sF, (E1.tail.take h2 hp hn).consN ⟨.ref p, rfl, .lst upd_same (dps_mono sF h3)⟩ rfl⟩
    obtain ⟨F1, s1, E3⟩ := E2
    have E4 : EnvF K Ho Fo F1 H (cells ρ σ ++ (frzS s, v) :: τ) := E3.perm List.perm_middle.symm
    obtain ⟨F2, s2, E5⟩ := frz_all E4
    exact ⟨F2, s1.trans s2, E5.perm List.perm_middle⟩
theorem EnvF.nest {ρ : List Sl} {σ : St} {τ : List Cell} (E : EnvF K Ho Fo F H (cells ρ σ ++ τ)) : ∃ F', Env K H F' (cells (ρ.map frzS) σ ++ []) H ∧ ∀ H', Same H H' → EnvF K Ho Fo F H' (cells ρ σ ++ τ) := by
  obtain ⟨F', s, e⟩ := frz_all E
  refine ⟨F', ⟨F', Same.refl _, Same.refl _, e.inn, fun b o q => .inl q, fun c hc => ?_, ?_, ?_⟩, fun H' sH => E.step sH (Same.refl _) (E.inn.trans sH) fun b o q => .inl q⟩
  · rw [List.append_nil] at hc
    have q := e.ok c (List.mem_append_left _ hc)
    obtain ⟨s, v⟩ := c
    cases s with
    | u => trivial
    | d x => exact q
    | v x => exact q
    | q x => exact q
    | o xs =>
      exfalso
      obtain ⟨p, vs, h1, h2, h3⟩ := q
      simp only at h1
      subst h1
      have : p ∈ (cells (ρ.map frzS) σ).filterMap adr := List.mem_filterMap.mpr ⟨_, hc, rfl⟩
      rw [cells_frz_adr] at this
      cases this
    | t xs =>
      exfalso
      obtain ⟨p, vs, h1, h2, h3⟩ := q
      simp only at h1
      subst h1
      have : p ∈ (cells (ρ.map frzS) σ).filterMap adr := List.mem_filterMap.mpr ⟨_, hc, rfl⟩
      rw [cells_frz_adr] at this
      cases this
    | f x =>
      exact (frz_nof _ _ hc).elim
  · rw [List.append_nil, cells_frz_adr]
    exact List.nodup_nil
  · rw [List.append_nil, cells_frz_adr]
    intro p hp
    cases hp
end
section
variable {X : Cx} {a b c e f : Expr} {es : List Expr} {ρ ρ' ρ'' ρ1 ρ2 : List Sl} {pos apos : Pos} {x y z : PyData} {k k1 k2 : Sl} {n : Str} {i j : Int} {cl : Value} {st : Stmt} {sts sts' rest : List Stmt} {r : Out}
theorem de_bor (h : DE X e (ρ.map frzS) (.ok (.d y))) (hf : flat y = true := by rfl) : DE X e ρ (.ok (.d y)) := fun W hW Ho Fo σ τ H Q hl E hQ => by
  obtain ⟨F, E⟩ := E
  obtain ⟨F', E1, back⟩ := E.nest
  refine h W hW H F' σ [] H Q (by rw [List.length_map]; exact hl) E1 fun v H' E2 => ?_
  obtain ⟨F2, e2⟩ := E2
  obtain ⟨w, e3, e4⟩ := e2.ok (Sl.d y, some v) (List.mem_append_right _ List.mem_cons_self)
  cases e3
  exact hQ v H' (Env.unmid ⟨F, (back H' e2.sH).consN ⟨v, rfl, dp_flat hf e4⟩ rfl⟩)
theorem de_borO {ys : List PyData} (h : DE X e (ρ.map frzS) (.ok (.o ys))) (hf : ∀ d ∈ ys, flat d = true) : DE X e ρ (.ok (.o ys)) := fun W hW Ho Fo σ τ H Q hl E hQ => by
  obtain ⟨F, E⟩ := E
  obtain ⟨F', E1, back⟩ := E.nest
  refine h W hW H F' σ [] H Q (by rw [List.length_map]; exact hl) E1 fun v H' E2 => ?_
  obtain ⟨F2, e2⟩ := E2
  obtain ⟨p, vs, e3, e4, e5⟩ := e2.ok (Sl.o ys, some v) (List.mem_append_right _ List.mem_cons_self)
  cases e3
  have hp : H p = none := (e2.no p (List.mem_filterMap.mpr ⟨(Sl.o ys, some (V.ref p)), List.mem_append_right _ List.mem_cons_self, rfl⟩)).2
  have q := back H' e2.sH
  refine hQ (.ref p) H' (Env.unmid ⟨F, q.cons ⟨p, vs, rfl, e4, dps_flat hf e5⟩ fun p' hp' => ?_⟩)
  have eq : p = p' := Option.some.inj hp'
  subst eq
  refine ⟨fun hm => ?_, E.inn.free hp, E.sH.free hp⟩
  obtain ⟨o, ho⟩ := E.at hm
  rw [hp] at ho
  cases ho
theorem dt_bor {r : Rb} (h : DT X e (ρ.map frzS) r) : DT X e ρ r := fun W hW Ho Fo σ τ H Q hl E hQ => by
  obtain ⟨F, E⟩ := E
  obtain ⟨F', E1, back⟩ := E.nest
  refine h W hW H F' σ [] H Q (by rw [List.length_map]; exact hl) E1 ?_
  cases r with
  | ok b => exact fun H' E2 => hQ H' (let ⟨F2, e2⟩ := E2; ⟨F, back H' e2.sH⟩)
  | ex b => exact fun H' E2 => hQ H' (let ⟨F2, e2⟩ := E2; ⟨F, back H' e2.sH⟩)

def TGo (K : Frag) (g : TG) (ρ : List Sl) (x : PyData) (ρ' : List Sl) : Prop := ∀ (Ho Fo : Hp) (σ : St) (τ : List Cell) (H : Hp) (v : V) (Q : St → Hp → Prop), σ.length = ρ.length → Env K Ho Fo (cells ρ σ ++ (.d x, some v) :: τ) H →
  (∀ σ' H', σ'.length = ρ'.length → Env K Ho Fo (cells ρ' σ' ++ τ) H' → Q σ' H') → g v σ H Q
theorem tgo_name {K : Frag} {i : Nat} (hi : i < ρ.length) : TGo K (gName i) ρ x (ρ.set i (.d x)) := fun Ho Fo σ τ H v Q hl E hQ => hQ _ _ (by rw [List.length_set, List.length_set]; exact hl) (E.mid.push hl hi)
theorem tgo_two {K : Frag} {i j : Nat} (hi : i < ρ.length) (hj : j < ρ.length) : TGo K (gTup K 2 (gCons (gName i) (gCons (gName j) gNil))) ρ (.tuple [x, y]) ((ρ.set i (.d x)).set j (.d y)) := fun Ho Fo σ τ H v Q hl E hQ => by
  obtain ⟨F, e⟩ := E
  obtain ⟨w, e1, e2⟩ := e.ok (Sl.d (.tuple [x, y]), some v) (List.mem_append_right _ List.mem_cons_self)
  cases e1
  cases e2 with
  | tup ha hd =>
    cases hd with
    | cons h1 hd =>
      cases hd with
      | cons h2 hd =>
        cases hd
        rename_i a v1 v2
        refine ⟨a, [v1, v2], rfl, .of (e.inn _ _ ha), rfl, v1, [v2], rfl, v2, [], rfl, rfl, ?_⟩
        have e0 : EnvF K Ho Fo F H (cells ρ σ ++ τ) := e.sub ((List.sublist_cons_self _ _).append_left _)
        have e3 : EnvF K Ho Fo F H ((.d x, some v1) :: (cells ρ σ ++ ((.d y, some v2) :: τ))) := by
          have : EnvF K Ho Fo F H ((.d x, some v1) :: (.d y, some v2) :: (cells ρ σ ++ τ)) := (e0.consN (c := (.d y, some v2)) ⟨v2, rfl, h2⟩ rfl).consN (c := (.d x, some v1)) ⟨v1, rfl, h1⟩ rfl
          exact this.perm (List.Perm.cons _ List.perm_middle.symm)
        have E4 := Env.push (K := K) (Ho := Ho) (Fo := Fo) ⟨F, e3⟩ hl hi
        have E5 := (E4.mid).push (by rw [List.length_set, List.length_set]; exact hl) (by rw [List.length_set]; exact hj)
        exact hQ _ _ (by rw [List.length_set, List.length_set, List.length_set, List.length_set]; exact hl) E5
inductive Fin (X : Cx) (body : List Stmt) (ρs ρt : Nat → List Sl) (n : Nat) : Nat → Out → Prop
  | all : Fin X body ρs ρt n n (.nx (ρs n))
  | brk {m : Nat} {ρ' : List Sl} (hm : m < n) (h : DSs X body (ρt m) (.bk ρ')) : Fin X body ρs ρt n m (.nx ρ')
  | rt {m : Nat} {k : Sl} (hm : m < n) (h : DSs X body (ρt m) (.rt k)) : Fin X body ρs ρt n m (.rt k)
  | ex {m : Nat} {c : Value} {ρ' : List Sl} (hm : m < n) (h : DSs X body (ρt m) (.ex c ρ')) : Fin X body ρs ρt n m (.ex c ρ')
def Goes (X : Cx) (body : List Stmt) (ρt ρ' : List Sl) : Prop := DSs X body ρt (.nx ρ') ∨ DSs X body ρt (.ct ρ')
theorem Fin.le {body : List Stmt} {ρs ρt : Nat → List Sl} {n m : Nat} {out : Out} (h : Fin X body ρs ρt n m out) : m ≤ n := by cases h <;> omega
theorem fin_turn {body : List Stmt} {ρs ρt : Nat → List Sl} {n m : Nat} {out : Out} {W : WX} (hW : Exc X W) {Ho Fo : Hp} {D : Ends} {τ τ' : List Cell} (hτ : τ.Sublist τ') (hQ : PostS X.K W Ho Fo τ out D) (h : Fin X body ρs ρt n m out) (hm : m < n)
    {σ : St} {H : Hp} (hl : σ.length = (ρt m).length) (E : Env X.K Ho Fo (cells (ρt m) σ ++ τ') H) (nx ct : St → Hp → Prop) : tSs X body { D with nx := nx, ct := ct, bk := D.nx } σ H := by
  have sb : ∀ (L : List Cell), (L ++ τ).Sublist (L ++ τ') := fun L => hτ.append_left L
  cases h with
  | all => omega
  | brk hm h => exact h W hW Ho Fo σ τ' H _ hl E fun σ' H' hl' E' => hQ _ _ hl' (E'.sub (sb _))
  | rt hm h => exact h W hW Ho Fo σ τ' H _ hl E fun v H' E' => hQ _ _ (E'.sub (hτ.cons_cons _))
  | ex hm h => exact h W hW Ho Fo σ τ' H _ hl E fun σ' H' hl' E' => hQ _ _ hl' (E'.sub (sb _))
theorem ds_for {xs : List PyData} {tg iter : Expr} {body : List Stmt} {g : TG} {ρs ρt : Nat → List Sl} {m : Nat} {out : Out} (hc : X.calm = true) (hi : DE X iter ρ (.ok (.d (.list xs)))) (hg : PG X tg g) (h0 : Wk ρ (ρs 0))
    (ht : ∀ i x, i ≤ m → xs[i]? = some x → TGo X.K g (ρs i) x (ρt i)) (hb : ∀ i x, i < m → xs[i]? = some x → Goes X body (ρt i) (ρs (i + 1))) (hf : Fin X body ρs ρt xs.length m out)
    (hs : ∀ x, foldedSetIterable iter X.env x = pure x := by intro _; rfl) : DS X (.For tg iter body [] pos) ρ out := fun W hW Ho Fo σ τ H D hl E hQ => by
  refine tS_of (ps_for hW.2.1 hc (pi_list pe_) hg pss_ hs) (hi W hW Ho Fo σ τ H _ hl E fun v H1 E1 => ?_)
  have E1' : ∃ a vs, v = .ref a ∧ (∀ L H', Env X.K Ho Fo (L ++ (Sl.d (.list xs), some v) :: τ) H' → ∃ ws, SqL X.K H' a ws ∧ ws.length = xs.length ∧ ∀ (i : Nat) (w : V), ws[i]? = some w → ∃ x, xs[i]? = some x ∧ Env X.K Ho Fo (L ++ (Sl.d x, some w) :: (Sl.d (.list xs), some v) :: τ) H') ∧ vs = v := by
    obtain ⟨w, e1, e2⟩ := E1.fget (List.mem_append_right _ List.mem_cons_self)
    cases e1
    cases e2 with
    | lst ha hd =>
      rename_i a ws0
      refine ⟨a, _, rfl, fun L H' E' => ?_, rfl⟩
      obtain ⟨F, e⟩ := E'
      obtain ⟨w', e3, e4⟩ := e.ok (Sl.d (.list xs), some (.ref a)) (List.mem_append_right _ List.mem_cons_self)
      cases e3
      cases e4 with
      | lst ha' hd' =>
        rename_i ws
        refine ⟨ws, .of (e.inn _ _ ha'), dps_len hd', fun i w hw => ?_⟩
        obtain ⟨x, h1, h2⟩ := dps_get' hd' hw
        exact ⟨x, h1, Env.unmid ⟨F, e.consN ⟨w, rfl, h2⟩ rfl⟩⟩
  obtain ⟨a, _, rfl, look, _⟩ := E1'
  obtain ⟨ws1, hq1, hl1, _⟩ := look (cells ρ σ) H1 E1
  refine ⟨a, rfl, ⟨ws1, hq1⟩, ?_⟩
  have hml := hf.le
  refine ⟨fun i q σ H => q = xs.length - i ∧ i ≤ m ∧ σ.length = (ρs i).length ∧ Env X.K Ho Fo (cells (ρs i) σ ++ (Sl.d (.list xs), some (.ref a)) :: τ) H, ⟨_, rfl, Nat.zero_le _, hl.trans h0.len, env_wk h0 hl E1⟩, fun i q σ' H' ⟨_, him, hl', E'⟩ => ?_⟩
  obtain ⟨ws, hq, hwl, nth⟩ := look _ _ E'
  by_cases hlt : i < xs.length
  · refine .inr ⟨⟨ws, ws[i]'(by omega), hq, List.getElem?_eq_getElem (by omega)⟩, ?_⟩
    obtain ⟨x, hx, E2⟩ := nth i _ (List.getElem?_eq_getElem (by omega))
    have sub : τ.Sublist ((Sl.d (.list xs), some (.ref a)) :: τ) := List.sublist_cons_self _ _
    refine ⟨fun σ' H' => σ'.length = (ρs (i + 1)).length ∧ i < m ∧ Env X.K Ho Fo (cells (ρs (i + 1)) σ' ++ (Sl.d (.list xs), some (.ref a)) :: τ) H', fun σ2 H2 ⟨g1, g2, g3⟩ => ⟨_, by omega, rfl, by omega, g1, g3⟩, fun w H2 hy => ?_⟩
    obtain ⟨e2, hy⟩ := hy
    subst e2
    have ew := hy ws hq
    obtain ⟨x', hx', E3⟩ := nth i w ew
    rw [hx] at hx'
    cases hx'
    refine ht i x him hx Ho Fo σ' _ H2 w _ hl' E3 fun σ3 H3 hl3 E4 => ?_
    by_cases hi : i < m
    · rcases hb i x hi hx with hb | hb
      · exact hb W hW Ho Fo σ3 _ H3 _ hl3 E4 fun σ4 H4 hl4 E5 => ⟨hl4, hi, E5⟩
      · exact hb W hW Ho Fo σ3 _ H3 _ hl3 E4 fun σ4 H4 hl4 E5 => ⟨hl4, hi, E5⟩
    · have : i = m := by omega
      subst this
      exact fin_turn hW sub hQ hf hlt hl3 E4 _ _
  · have : i = xs.length := by omega
    subst this
    have e : m = xs.length := by omega
    subst e
    refine .inl ⟨⟨ws, hq, by omega⟩, ?_⟩
    cases hf with
    | all => exact hQ _ _ hl' (E'.sub ((List.sublist_cons_self _ _).append_left _))
    | brk hm h => omega
    | rt hm h => omega
    | ex hm h => omega
theorem ds_for_it {lo : Int} {nn : Nat} {wi : TI} {tg iter : Expr} {body : List Stmt} {g : TG} {ρs ρt : Nat → List Sl} {m : Nat} {out : Out} (hc : X.calm = true) (hpi : PI X tg iter wi)
    (hi : ∀ W, Exc X W → ∀ (Ho Fo : Hp) (σ : St) (τ : List Cell) (H : Hp) (R : It → Hp → Prop), σ.length = ρ.length → Env X.K Ho Fo (cells ρ σ ++ τ) H → (∀ H', Env X.K Ho Fo (cells ρ σ ++ τ) H' → R (Itr lo nn) H') → wi σ H R) (hg : PG X tg g) (h0 : Wk ρ (ρs 0))
    (ht : ∀ i, i ≤ m → i < nn → TGo X.K g (ρs i) (.int (lo + i)) (ρt i)) (hb : ∀ i, i < m → i < nn → Goes X body (ρt i) (ρs (i + 1))) (hf : Fin X body ρs ρt nn m out)
    (hs : ∀ x, foldedSetIterable iter X.env x = pure x := by intro _; rfl) : DS X (.For tg iter body [] pos) ρ out := fun W hW Ho Fo σ τ H D hl E hQ => by
  refine tS_of (ps_for hW.2.1 hc hpi hg pss_ hs) (hi W hW Ho Fo σ τ H _ hl E fun H1 E1 => ?_)
  have hml := hf.le
  refine ⟨fun i q σ H => q = nn - i ∧ i ≤ m ∧ σ.length = (ρs i).length ∧ Env X.K Ho Fo (cells (ρs i) σ ++ τ) H, ⟨_, rfl, Nat.zero_le _, hl.trans h0.len, env_wk h0 hl E1⟩, fun i q σ' H' ⟨_, him, hl', E'⟩ => ?_⟩
  by_cases hlt : i < nn
  · refine .inr ⟨hlt, fun σ' H' => σ'.length = (ρs (i + 1)).length ∧ i < m ∧ Env X.K Ho Fo (cells (ρs (i + 1)) σ' ++ τ) H', fun σ2 H2 ⟨g1, g2, g3⟩ => ⟨_, by omega, rfl, by omega, g1, g3⟩, fun w H2 hy => ?_⟩
    obtain ⟨e2, hy⟩ := hy
    subst e2 hy
    refine ht i him hlt Ho Fo σ' _ H2 _ _ hl' (E'.int _).unmid fun σ3 H3 hl3 E4 => ?_
    by_cases hi : i < m
    · rcases hb i hi hlt with hb | hb
      · exact hb W hW Ho Fo σ3 _ H3 _ hl3 E4 fun σ4 H4 hl4 E5 => ⟨hl4, hi, E5⟩
      · exact hb W hW Ho Fo σ3 _ H3 _ hl3 E4 fun σ4 H4 hl4 E5 => ⟨hl4, hi, E5⟩
    · have : i = m := by omega
      subst this
      exact fin_turn hW (List.Sublist.refl _) hQ hf hlt hl3 E4 _ _
  · have : i = nn := by omega
    subst this
    have e : m = i := by omega
    subst e
    refine .inl ⟨Nat.le_refl _, ?_⟩
    cases hf with
    | all => exact hQ _ _ hl' E'
    | brk hm h => omega
    | rt hm h => omega
    | ex hm h => omega
theorem ds_for1 {nn : Nat} {hi : Int} {tg a : Expr} {p q : Pos} {body : List Stmt} {g : TG} {ρs ρt : Nat → List Sl} {m : Nat} {out : Out} (hc : X.calm = true) (hm : X.mg "range" = none) (ha : DE X a ρ (.ok (.d (.int hi)))) (hB : -(2 ^ 62) ≤ hi ∧ hi < 2 ^ 62) (hn : nn = hi.toNat) (hg : PG X tg g) (h0 : Wk ρ (ρs 0))
    (ht : ∀ i, i ≤ m → i < nn → TGo X.K g (ρs i) (.int (0 + i)) (ρt i)) (hb : ∀ i, i < m → i < nn → Goes X body (ρt i) (ρs (i + 1))) (hf : Fin X body ρs ρt nn m out) (hgl : Gl X "range" := by rfl) (hse : starEach [a] X.env = [(false, eval a X.env)] := by rfl)
    (hs : ∀ x, foldedSetIterable (.Call (.Name "range" p) [a] [] q) X.env x = pure x := by intro _; rfl) : DS X (.For tg (.Call (.Name "range" p) [a] [] q) body [] pos) ρ out :=
  ds_for_it hc (pi_range1 hgl hm (pa_cons pe_ pa_nil hse) hse) (fun W hW Ho Fo σ τ H R hl E hR => ha W hW Ho Fo σ τ H _ hl E fun v H1 E1 => by
    obtain ⟨w, e1, e2⟩ := E1.mid.fget List.mem_cons_self
    cases e1
    cases dp_int e2
    refine ⟨hi, rfl, hB.1, hB.2, ?_⟩
    rw [← hn]
    exact hR _ E1.mid.tail) hg h0 ht hb hf hs
theorem ds_for2 {nn : Nat} {lo hi : Int} {tg a b : Expr} {p q : Pos} {body : List Stmt} {g : TG} {ρs ρt : Nat → List Sl} {m : Nat} {out : Out} (hc : X.calm = true) (hm : X.mg "range" = none) (ha : DE X a ρ (.ok (.d (.int lo)))) (hb2 : DE X b ρ (.ok (.d (.int hi)))) (hB : -(2 ^ 62) ≤ lo ∧ lo < 2 ^ 62 ∧ -(2 ^ 62) ≤ hi ∧ hi < 2 ^ 62) (hn : nn = (hi - lo).toNat) (hg : PG X tg g) (h0 : Wk ρ (ρs 0))
    (ht : ∀ i, i ≤ m → i < nn → TGo X.K g (ρs i) (.int (lo + i)) (ρt i)) (hb : ∀ i, i < m → i < nn → Goes X body (ρt i) (ρs (i + 1))) (hf : Fin X body ρs ρt nn m out) (hgl : Gl X "range" := by rfl) (hse : starEach [a, b] X.env = [(false, eval a X.env), (false, eval b X.env)] := by rfl) (hse2 : starEach [b] X.env = [(false, eval b X.env)] := by rfl)
    (hs : ∀ x, foldedSetIterable (.Call (.Name "range" p) [a, b] [] q) X.env x = pure x := by intro _; rfl) : DS X (.For tg (.Call (.Name "range" p) [a, b] [] q) body [] pos) ρ out :=
  ds_for_it hc (pi_range2 hgl hm (pa_cons pe_ (pa_cons pe_ pa_nil hse2) (hse.trans (congrArg ((false, eval a X.env) :: ·) hse2.symm))) hse hse2) (fun W hW Ho Fo σ τ H R hl E hR => ha W hW Ho Fo σ τ H _ hl E fun v H1 E1 => hb2 W hW Ho Fo σ _ H1 _ hl E1 fun w H2 E2 => by
    obtain ⟨w', e1, e2⟩ := E2.mid.fget List.mem_cons_self
    cases e1
    cases dp_int e2
    obtain ⟨w', e1, e2⟩ := E2.mid.tail.mid.fget List.mem_cons_self
    cases e1
    cases dp_int e2
    refine ⟨lo, hi, rfl, hB, ?_⟩
    rw [← hn]
    exact hR _ E2.mid.tail.mid.tail) hg h0 ht hb hf hs
theorem ds_while {body : List Stmt} {ρs : Nat → List Sl} {m nn : Nat} {out : Out} (h0 : Wk ρ (ρs 0)) (hT : ∀ i, i < nn → i ≤ m → DT X c (ρs i) (.ok true)) (hF : m = nn → DT X c (ρs nn) (.ok false)) (hb : ∀ i, i < m → i < nn → Goes X body (ρs i) (ρs (i + 1))) (hf : Fin X body ρs ρs nn m out) :
    DS X (.While c body [] pos) ρ out := fun W hW Ho Fo σ τ H D hl E hQ => by
  refine tS_of (ps_while hW.2.1 pt_ pss_) ?_
  have hml := hf.le
  refine ⟨fun q σ H => ∃ i, q = nn - i ∧ i ≤ m ∧ σ.length = (ρs i).length ∧ Env X.K Ho Fo (cells (ρs i) σ ++ τ) H, ⟨_, 0, rfl, Nat.zero_le _, hl.trans h0.len, env_wk h0 hl E⟩, fun q σ' H' ⟨i, hq, him, hl', E'⟩ => ?_⟩
  by_cases hlt : i < nn
  · refine hT i hlt him W hW Ho Fo σ' τ H' _ hl' E' fun H1 E1 => ?_
    rw [if_pos rfl]
    refine ⟨fun σ' H' => σ'.length = (ρs (i + 1)).length ∧ i < m ∧ Env X.K Ho Fo (cells (ρs (i + 1)) σ' ++ τ) H', fun σ2 H2 ⟨g1, g2, g3⟩ => ⟨_, by omega, i + 1, rfl, by omega, g1, g3⟩, ?_⟩
    by_cases hi : i < m
    · rcases hb i hi hlt with hb | hb
      · exact hb W hW Ho Fo σ' _ H1 _ hl' E1 fun σ4 H4 hl4 E5 => ⟨hl4, hi, E5⟩
      · exact hb W hW Ho Fo σ' _ H1 _ hl' E1 fun σ4 H4 hl4 E5 => ⟨hl4, hi, E5⟩
    · have : i = m := by omega
      subst this
      exact fin_turn hW (List.Sublist.refl _) hQ hf hlt hl' E1 _ _
  · have : i = nn := by omega
    subst this
    have e : m = i := by omega
    refine hF e W hW Ho Fo σ' τ H' _ hl' E' fun H1 E1 => ?_
    rw [if_neg Bool.false_ne_true]
    subst e
    cases hf with
    | all => exact hQ _ _ hl' E1
    | brk hm h => omega
    | rt hm h => omega
    | ex hm h => omega
end
end DL

namespace DL
open PySem PySem.Spec PyProof.Rows L2
def isArg : Sl → Bool
  | .d _ => true
  | .q _ => true
  | .v _ => true
  | _ => false
def PostF (K : Frag) (H F : Hp) (E : XK) (r : Re) (Q : VK) : Prop := match r with
  | .ok k => ∀ v H', Env K H F [(k, some v)] H' → Q v H'
  | .ex c => ∀ H', Same H H' → E c none H'
def spD (K : Frag) (S : List Sl → Re → Prop) : Sp := fun vs H Q E => ∃ F ks r, S ks r ∧ ks.all isArg = true ∧ Same F H ∧ vs.length = ks.length ∧ (∀ c ∈ cells ks (vs.map some), Cok K H F H c) ∧ PostF K H F E r Q
def Cal (P : Program) (w : World) (K : Frag) (mg : Str → Option Value) (base : Heap) (x : Str) (k : Nat) (ps : List Str) (S : List Sl → Re → Prop) : Prop :=
  ∃ f fd, mg x = some (.ref f) ∧ PySem.W.keepIn K (.ref f) = true ∧ Binds K fd ps [] ∧ FnOk P w K mg base (L2N.CX P w) k f fd ps (spD K S)
def Df (K : Frag) (mg : Str → Option Value) (x : Str) (st : Stmt) (ps : List Str) : Prop := ∃ f fd, Fun K x x st f fd ∧ mg x = some (.ref f) ∧ Binds K fd ps []
theorem isArg_adr {s : Sl} (h : isArg s = true) (v : Option V) : adr (s, v) = none := by cases s <;> first | rfl | cases h
theorem arg_cok {K : Frag} {Ho Ho' F H H' : Hp} {c : Cell} (h : isArg c.1 = true) (q : Cok K Ho F H c) : Cok K Ho' F H' c := by
  obtain ⟨s, v⟩ := c
  cases s with
  | u => cases h
  | d x => exact q
  | v x => exact q
  | q x => exact q
  | f x => cases h
  | o x => cases h
  | t x => cases h
theorem cells_arg : ∀ {ks : List Sl} {σ : St}, ks.all isArg = true → ∀ c ∈ cells ks σ, isArg c.1 = true
  | [], _, _, c, h => by cases h
  | _ :: _, [], _, c, h => by cases h
  | s :: ks, v :: σ, ha, c, h => by
    rw [List.all_cons, Bool.and_eq_true] at ha
    rcases List.mem_cons.mp h with e | h
    · rw [e]; exact ha.1
    · exact cells_arg ha.2 c h
theorem EnvF.call {K : Frag} {Ho Fo F F' H H' : Hp} {L : List Cell} {c : Cell} (e : EnvF K Ho Fo F H L) (e' : EnvF K H F F' H' [c]) : EnvF K Ho Fo F' H' (c :: L) := by
  refine (e.step e'.sH e'.sF e'.inn e'.nw).cons ?_ fun p hp => ?_
  · have q := e'.ok c List.mem_cons_self
    obtain ⟨s, v⟩ := c
    cases s with
    | u => trivial
    | d x => exact q
    | v x => exact q
    | q x => exact q
    | f x => obtain ⟨w, h1, h2⟩ := q; exact ⟨w, h1, dp_mono (cut_mono e.sH (Same.refl _)) h2⟩
    | o x => exact q
    | t x => exact q
  · have h1 := e'.no p (by rw [List.filterMap_cons_some hp]; exact List.mem_cons_self)
    refine ⟨fun hm => ?_, h1.1, e.sH.free h1.2⟩
    obtain ⟨o, ho⟩ := e.at hm
    rw [h1.2] at ho
    cases ho
section
variable {X : Cx} {a b c e f : Expr} {es : List Expr} {ρ ρ' ρ'' ρ1 ρ2 : List Sl} {pos apos : Pos} {x y z : PyData} {k k1 k2 : Sl} {n : Str} {i j : Int} {cl : Value} {st : Stmt} {sts sts' rest : List Stmt} {r : Out}
theorem de_call {ks : List Sl} {lv : Nat} {ps : List Str} {S : List Sl → Re → Prop} {q : Re} {p : Pos} (C : Cal X.prog X.w X.K X.mg X.base n lv ps S) (hr : Room lv X.A) (ha : DA X (e :: es) ρ ks) (hS : S ks q) (hk : ks.all isArg = true := by rfl) (hg : Gl X n := by rfl) (hdb : (n == ("__debug__" : Str)) = false := by decide)
    (he : starEach (e :: es) X.env = (false, eval e X.env) :: starEach es X.env := by rfl) (hpl : (backTo pos (starEach es X.env)).any (·.1) = false := by rfl) : DE X (.Call (.Name n p) (e :: es) [] pos) ρ q := fun W hW Ho Fo σ τ H Q hl E hQ => by
  obtain ⟨f, fd, hm, hkp, hb, F⟩ := C
  refine tE_of (pe_callS F hr hg hm hkp hb (fun σ => L2N.passAt hW.1 σ) pa_ hdb he hpl) (ha W hW Ho Fo σ τ H _ hl E fun vs H1 e1 E1 => ?_)
  obtain ⟨F1, E1⟩ := E1
  have E2 : EnvF X.K Ho Fo F1 H1 (cells ρ σ ++ τ) := E1.sub ((List.sublist_append_right _ _).append_left _)
  refine ⟨F1, ks, q, hS, hk, E1.inn, e1, fun c hc => arg_cok (cells_arg hk c hc) (E1.ok c (List.mem_append_right _ (List.mem_append_left _ hc))), ?_⟩
  cases q with
  | ok k => exact fun v H' ⟨F', e'⟩ => hQ v H' (Env.unmid ⟨F', E2.call e'⟩)
  | ex c => exact fun H' s => hQ H' ⟨F1, E2.step s (Same.refl _) (E2.inn.trans s) fun b o q => .inl q⟩
def Does (X : Cx) (sts : List Stmt) (ρ : List Sl) (r : Re) : Prop := match r with
  | .ok k => DSs X sts ρ (.rt k) ∨ (k = .d .none ∧ ∃ ρ', DSs X sts ρ (.nx ρ'))
  | .ex c => ∃ ρ', DSs X sts ρ (.ex c ρ')
theorem does_rt (h : DSs X sts ρ (.rt k)) : Does X sts ρ (.ok k) := .inl h
theorem does_nx (h : DSs X sts ρ (.nx ρ')) : Does X sts ρ (.ok (.d .none)) := .inr ⟨rfl, _, h⟩
theorem does_ex {c : Value} (h : DSs X sts ρ (.ex c ρ')) : Does X sts ρ (.ex c) := ⟨_, h⟩
end
theorem cells_app : ∀ {ks : List Sl} {vs : St} {ks' : List Sl} {vs' : St}, vs.length = ks.length → cells (ks ++ ks') (vs ++ vs') = cells ks vs ++ cells ks' vs'
  | [], [], _, _, _ => rfl
  | [], _ :: _, _, _, h => by simp at h
  | _ :: _, [], _, _, h => by simp at h
  | k :: ks, v :: vs, ks', vs', h => by
    show (k, v) :: cells (ks ++ ks') (vs ++ vs') = (k, v) :: (cells ks vs ++ cells ks' vs')
    rw [cells_app (by simpa using h)]
theorem cells_u : ∀ (m : Nat) (c : Cell), c ∈ cells (List.replicate m .u) (List.replicate m none) → c = (.u, none)
  | 0, c, h => by cases h
  | m + 1, c, h => by
    rcases List.mem_cons.mp h with e | h
    · exact e
    · exact cells_u m c h
section
variable {P : Program} {w : World} {K : Frag} {mg : Str → Option Value} {base : Heap}
theorem okN {x qual : Str} {st : Stmt} {f : Addr} {fd : FuncData} {N ps : List Str} {k : Nat} {sp : Sp} (F : Fun K x qual st f fd) (S : FnScope N ps (defScope st)) (len : ∀ vs H Q E, sp vs H Q E → vs.length = ps.length)
    (hbody : ∀ (cdv : Value) (A : Around) (outer : List PySem.Env) (s : Shared) (H : Hp) (vs : List V) (Q : VK) (E : XK), Room k (A.deeper (envOfC qual (defScope st) s.heap.objs.size f cdv)) → sp vs H Q E →
      ∃ t, PSs (cxOf (L2N.CX P w) P w K mg base N qual (defScope st) f cdv A outer s H E) (defBody st) t ∧ t { nx := fun _ H' => Q .non H', rt := Q } (L2.start N vs) H) : FnOk P w K mg base (L2N.CX P w) (k + 1) f fd ps sp := by
  obtain ⟨oc, od, kV, doc, pm, an, cdv, ct, osl, rfl, lk, hcd⟩ := F.ex
  exact fn_of lk hcd S len fun A outer s H vs Q E hr hsp => hbody cdv A outer s H vs Q E hr hsp
theorem mk_fn {x : Str} {st : Stmt} {N ps : List Str} {k : Nat} {S : List Sl → Re → Prop} {f : Addr} {fd : FuncData} (Fd : Fun K x x st f fd) (Sc : FnScope N ps (defScope st)) (hp : ps.length ≤ N.length) (hlen : ∀ ks r, S ks r → ks.length = ps.length)
    (body : ∀ (cdv : Value) (A : Around) (outer : List PySem.Env) (s : Shared) (H : Hp) (E : XK), Room k (A.deeper (envOfC x (defScope st) s.heap.objs.size f cdv)) → ∀ ks r, S ks r →
      Does (cxOf (L2N.CX P w) P w K mg base N x (defScope st) f cdv A outer s H E) (defBody st) (ks ++ List.replicate (N.length - ps.length) .u) r) : FnOk P w K mg base (L2N.CX P w) (k + 1) f fd ps (spD K S) := by
  refine okN Fd Sc (fun vs H Q E h => ?_) fun cdv A outer s H vs Q E hr h => ⟨_, pss_, ?_⟩
  · obtain ⟨F, ks, r, hS, hk, hF, hl, _⟩ := h
    rw [hl]
    exact hlen ks r hS
  · obtain ⟨F, ks, r, hS, hk, hF, hl, hc, hQ⟩ := h
    have hd := body cdv A outer s H E hr ks r hS
    have hkl := hlen ks r hS
    have hW : Exc (cxOf (L2N.CX P w) P w K mg base N x (defScope st) f cdv A outer s H E) (fun cls d _ H' => E cls d H') := ⟨L2N.takes_of rfl rfl rfl rfl, passes_of rfl, Sc.nd⟩
    have hlen1 : (L2.start N vs).length = (ks ++ List.replicate (N.length - ps.length) Sl.u).length := by
      unfold L2.start
      rw [List.length_append, List.length_append, List.length_map, List.length_replicate, List.length_replicate, hl, hkl]
    have hcl : cells (ks ++ List.replicate (N.length - ps.length) Sl.u) (L2.start N vs) = cells ks (vs.map some) ++ cells (List.replicate (N.length - ps.length) Sl.u) (List.replicate (N.length - ps.length) none) := by
      unfold L2.start
      rw [cells_app (by rw [List.length_map]; exact hl), hl, hkl]
    have noadr : ∀ c ∈ cells (ks ++ List.replicate (N.length - ps.length) Sl.u) (L2.start N vs) ++ [], adr c = none := fun c hc' => by
      rw [List.append_nil, hcl] at hc'
      rcases List.mem_append.mp hc' with h | h
      · exact isArg_adr (cells_arg hk c h) c.2
      · rw [cells_u _ c h]; rfl
    have hfm : (cells (ks ++ List.replicate (N.length - ps.length) Sl.u) (L2.start N vs) ++ []).filterMap adr = [] := List.filterMap_eq_nil_iff.mpr noadr
    have E0 : Env K H F (cells (ks ++ List.replicate (N.length - ps.length) Sl.u) (L2.start N vs) ++ []) H := by
      refine ⟨F, Same.refl _, Same.refl _, hF, fun b o q => .inl q, fun c hc' => ?_, ?_, ?_⟩
      · rw [List.append_nil, hcl] at hc'
        rcases List.mem_append.mp hc' with h | h
        · exact hc c h
        · rw [cells_u _ c h]; trivial
      · rw [hfm]; exact List.nodup_nil
      · rw [hfm]; intro p hp; cases hp
    cases r with
    | ok k =>
      rcases hd with hd | ⟨e, ρ', hd⟩
      · exact hd _ hW H F (L2.start N vs) [] H { nx := fun _ H' => Q .non H', rt := Q } hlen1 E0 fun v H' E' => hQ v H' E'
      · subst e
        refine hd _ hW H F (L2.start N vs) [] H { nx := fun _ H' => Q .non H', rt := Q } hlen1 E0 fun σ' H' _ E' => hQ .non H' ?_
        exact (E'.sub (List.nil_sublist _)).non
    | ex c =>
      obtain ⟨ρ', hd⟩ := hd
      exact hd _ hW H F (L2.start N vs) [] H { nx := fun _ H' => Q .non H', rt := Q } hlen1 E0 fun σ' H' _ E' => hQ H' (let ⟨F', e'⟩ := E'; e'.sH)
theorem mk_cal {x : Str} {st : Stmt} {N ps : List Str} {k : Nat} {S : List Sl → Re → Prop} (D : Df K mg x st ps) (Sc : FnScope N ps (defScope st)) (hp : ps.length ≤ N.length) (hlen : ∀ ks r, S ks r → ks.length = ps.length)
    (body : ∀ (f : Addr) (cdv : Value) (A : Around) (outer : List PySem.Env) (s : Shared) (H : Hp) (E : XK), Room k (A.deeper (envOfC x (defScope st) s.heap.objs.size f cdv)) → ∀ ks r, S ks r →
      Does (cxOf (L2N.CX P w) P w K mg base N x (defScope st) f cdv A outer s H E) (defBody st) (ks ++ List.replicate (N.length - ps.length) .u) r) : Cal P w K mg base x (k + 1) ps S := by
  obtain ⟨f, fd, Fd, hm, hb⟩ := D
  exact ⟨f, fd, hm, Fd.kp, hb, mk_fn Fd Sc hp hlen fun cdv A outer s H E hr ks r h => body f cdv A outer s H E hr ks r h⟩
def S_law (ks : List Sl) (r : Re) : Prop := ∃ ns : List Int, ks = [.q ns] ∧ ns.length ≤ 63 ∧ r = .ok (.d (.bool true))
abbrev spLaw (K : Frag) : Sp := spD K S_law
theorem sp_law {H : Hp} {a : Addr} {ns : List Int} (hl : ns.length ≤ 63) (hS : SqL K H a (ns.map V.int)) : spLaw K [.ref a] H (fun v _ => v = .bl true) fun _ _ _ => False := by
  refine ⟨H, [.q ns], _, ⟨ns, rfl, hl, rfl⟩, rfl, Same.refl _, rfl, fun c hc => ?_, fun v H' E => ?_⟩
  · rcases List.mem_cons.mp hc with rfl | hc
    · exact ⟨a, rfl, hS⟩
    · cases hc
  · obtain ⟨w, e, h⟩ := E.fget List.mem_cons_self
    cases e
    exact dp_bl h
end
end DL

namespace DL
open PySem PySem.Spec PyProof.Rows L2
theorem takesN0 {X : Cx} : L2N.Takes X (fun _ _ _ _ => False) := fun _ _ x => by
  obtain ⟨_, _, _, _, _, _, _, _, _, _, _, _, _, _, _, _, z⟩ := x
  exact z.elim
def Bk (X : Cx) (scope : Scope) (X' : Cx) : Prop := ∃ s H C cl fp, X' = X.blk s H scope (compEnvC scope cl C X.env) fp
def TGw (K : Frag) (g : TG) (vs : List Nat) (ρ : List Sl) (x : PyData) (ρ' : List Sl) : Prop := ∀ (Ho Fo : Hp) (σ : St) (τ : List Cell) (H : Hp) (v : V) (Q : St → Hp → Prop), σ.length = ρ.length → Env K Ho Fo (cells ρ (wipe σ vs) ++ (.d x, some v) :: τ) H →
  (∀ σ' H', wipe σ' vs = wipe σ vs → σ'.length = ρ'.length → Env K Ho Fo (cells ρ' σ' ++ τ) H' → Q σ' H') → g v (wipe σ vs) H Q
section
variable {ρ : List Sl} {x y : PyData}
theorem tgw_name {K : Frag} {i : Nat} (hi : i < ρ.length) : TGw K (gName i) [i] ρ x (ρ.set i (.d x)) := fun Ho Fo σ τ H v Q hl E hQ => by
  refine hQ _ _ ?_ ?_ (E.mid.push (by rw [wipe_length]; exact hl) hi)
  · show ((σ.set i none).set i (some v)).set i none = σ.set i none
    rw [List.set_set, List.set_set]
  · rw [List.length_set, List.length_set, wipe_length]; exact hl
theorem tgw_two {K : Frag} {i j : Nat} (hi : i < ρ.length) (hj : j < ρ.length) (hij : i ≠ j) : TGw K (gTup K 2 (gCons (gName i) (gCons (gName j) gNil))) [i, j] ρ (.tuple [x, y]) ((ρ.set i (.d x)).set j (.d y)) := fun Ho Fo σ τ H v Q hl E hQ => by
  obtain ⟨F, e⟩ := E
  obtain ⟨w, e1, e2⟩ := e.ok (Sl.d (.tuple [x, y]), some v) (List.mem_append_right _ List.mem_cons_self)
  cases e1
  cases e2 with
  | tup ha hd =>
    cases hd with
    | cons h1 hd =>
      cases hd with
      | cons h2 hd =>
        cases hd
        rename_i a v1 v2
        refine ⟨a, [v1, v2], rfl, .of (e.inn _ _ ha), rfl, v1, [v2], rfl, v2, [], rfl, rfl, ?_⟩
        have e0 : EnvF K Ho Fo F H (cells ρ (wipe σ [i, j]) ++ τ) := e.sub ((List.sublist_cons_self _ _).append_left _)
        have e3 : EnvF K Ho Fo F H ((.d x, some v1) :: (cells ρ (wipe σ [i, j]) ++ ((.d y, some v2) :: τ))) := by
          have : EnvF K Ho Fo F H ((.d x, some v1) :: (.d y, some v2) :: (cells ρ (wipe σ [i, j]) ++ τ)) := (e0.consN (c := (.d y, some v2)) ⟨v2, rfl, h2⟩ rfl).consN (c := (.d x, some v1)) ⟨v1, rfl, h1⟩ rfl
          exact this.perm (List.Perm.cons _ List.perm_middle.symm)
        have hl' : (wipe σ [i, j]).length = ρ.length := by rw [wipe_length]; exact hl
        have E4 := Env.push (K := K) (Ho := Ho) (Fo := Fo) ⟨F, e3⟩ hl' hi
        have E5 := (E4.mid).push (by rw [List.length_set, List.length_set]; exact hl') (by rw [List.length_set]; exact hj)
        refine hQ _ _ ?_ (by rw [List.length_set, List.length_set, List.length_set, List.length_set]; exact hl') E5
        show ((((((σ.set j none).set i none).set i (some v1)).set j (some v2)).set j none).set i none) = (σ.set j none).set i none
        rw [List.set_set, List.set_set, List.set_comm _ _ (Ne.symm hij), List.set_set, List.set_comm _ _ hij, List.set_set]
end
theorem env_agree {K : Frag} {Ho Fo H : Hp} : ∀ {ρ : List Sl} {σ σ' : St} {τ : List Cell}, σ.length = σ'.length → (∀ i : Nat, ρ[i]? ≠ some Sl.u → σ[i]? = σ'[i]?) → Env K Ho Fo (cells ρ σ ++ τ) H → Env K Ho Fo (cells ρ σ' ++ τ) H
  | [], _, _, _, _, _, E => E
  | _ :: _, [], [], _, _, _, E => E
  | _ :: _, [], _ :: _, _, h, _, _ => by simp at h
  | _ :: _, _ :: _, [], _, h, _, _ => by simp at h
  | s :: ρ, v :: σ, v' :: σ', τ, h, a, E => by
    have E1 : Env K Ho Fo ((s, v) :: (cells ρ σ ++ τ)) H := E
    have E2 : Env K Ho Fo ((s, v') :: (cells ρ σ ++ τ)) H := by
      by_cases hs : s = Sl.u
      · subst hs
        obtain ⟨F, e⟩ := E1
        exact ⟨F, e.tail.consN trivial rfl⟩
      · have := a 0 (by simpa using hs)
        simp at this
        subst this
        exact E1
    have E3 : Env K Ho Fo (cells ρ σ ++ ((s, v') :: τ)) H := E2.unmid
    exact (env_agree (by simpa using h) (fun i hi => by simpa using a (i + 1) (by simpa using hi)) E3).mid
theorem wipe_at {σ : St} {i : Nat} : ∀ {vs : List Nat}, i ∉ vs → (wipe σ vs)[i]? = σ[i]?
  | [], _ => rfl
  | v :: vs, h => by
    unfold wipe
    rw [List.getElem?_set_ne (fun e => h (by rw [e]; exact List.mem_cons_self)), wipe_at fun z => h (List.mem_cons_of_mem _ z)]
section
variable {X : Cx} {a b c e f elt tg iter : Expr} {es ifs : List Expr} {ρ ρ' : List Sl} {pos apos : Pos} {x y z : PyData} {k k1 k2 : Sl} {n : Str} {i j : Int} {cl : Value} {st : Stmt} {scope : Scope} {own : List (Str × Nat)} {g : TG}
def DTs (X : Cx) (ifs : List Expr) (ρ : List Sl) (b : Bool) : Prop := match ifs with
  | [] => b = true
  | [c] => DT X c ρ (.ok b)
  | _ => False
def ttB (X : Cx) (scope : Scope) (ifs : List Expr) : TT := match ifs with
  | [] => tYes
  | [c] => fun σ H Q => ∀ X', Bk X scope X' → tT X' c σ H Q
  | _ => fun _ _ _ => False
theorem pts_ (hq : ifs.length ≤ 1) (s : Shared) (H : Hp) (C : Addr) (cl : List (Str × Addr)) (fp : List Addr) : PTs (X.blk s H scope (compEnvC scope cl C X.env) fp) ifs (ttB X scope ifs) := by
  match ifs, hq with
  | [], _ => exact pts_nil
  | [c], _ => exact pts_one ⟨fun pins s' σ H' Q I h => h _ ⟨s, H, C, cl, fp, rfl⟩ pins s' I⟩
def teB (X : Cx) (scope : Scope) (elt : Expr) : TE := fun σ H Q => ∀ X', Bk X scope X' → tE X' elt σ H Q
theorem exc_blk {X' : Cx} (hN : X.N.Nodup) (h : Bk X scope X') : Exc X' (fun _ _ _ _ => False) := by
  obtain ⟨s, H, C, cl, fp, rfl⟩ := h
  exact ⟨takesN0, PassesOwn.never, hN⟩
theorem blk_K {X' : Cx} (h : Bk X scope X') : X'.K = X.K := by
  obtain ⟨s, H, C, cl, fp, rfl⟩ := h
  rfl
theorem lc_turn {vs : List Nat} {F : PyData → Option PyData} {ρt : List Sl} {acc : List PyData} {D : Addr} {v : V} {σ : St} {H : Hp} {Ho Fo : Hp} {τ : List Cell} {Pv : Hp → Prop} (hN : X.N.Nodup) (hu : ∀ q ∈ vs, ρ[q]? = some Sl.u) (hl : σ.length = ρ.length) (hz : acc.length < 100000)
    (ht : TGw X.K g vs ρ x ρt) (hw : Wk ρt ρ) (hq : ifs.length ≤ 1) (hi : ∀ X', Bk X scope X' → DTs X' ifs ρt (F x).isSome) (he : ∀ y, F x = some y → ∀ X', Bk X scope X' → DE X' elt ρt (.ok (.d y)))
    (E : Env X.K Ho Fo (cells ρ σ ++ (.d x, some v) :: (.o acc, some (.ref D)) :: τ) H) (hP : ∀ H', Env X.K Ho Fo (cells ρ σ ++ (.o (acc ++ (F x).toList), some (.ref D)) :: τ) H' → Pv H') :
    g v (wipe σ vs) H fun σ2 H2 => wipe σ2 vs = wipe σ vs ∧ ttB X scope ifs σ2 H2 fun b H3 =>
      if b = true then teB X scope elt σ2 H3 fun y H4 => ∃ acc, H4 D = some (.lst acc) ∧ acc.length < sizeLine ∧ Pv (upd H4 D (.lst (acc ++ [y]))) else Pv H3 := by
  have E1 : Env X.K Ho Fo (cells ρ (wipe σ vs) ++ (.d x, some v) :: (.o acc, some (.ref D)) :: τ) H := env_agree (by rw [wipe_length]) (fun i hi => by
    by_cases hm : i ∈ vs
    · exact absurd (hu i hm) hi
    · rw [wipe_at hm]) E
  refine ht Ho Fo σ _ H v _ hl E1 fun σ2 H2 hwi hl2 E2 => ⟨hwi, ?_⟩
  -- back to the slots as they were
  have back : ∀ (M : List Cell) H', Env X.K Ho Fo (cells ρt σ2 ++ M) H' → Env X.K Ho Fo (cells ρ σ ++ M) H' := fun M H' E' => by
    have E3 := env_wk hw hl2 E'
    refine env_agree (by rw [hl2, hw.len, hl]) (fun i hi => ?_) E3
    by_cases hm : i ∈ vs
    · exact absurd (hu i hm) hi
    · rw [← wipe_at hm, ← wipe_at (σ := σ) hm, hwi]
  have tail : ∀ b H3, (b = (F x).isSome) → Env X.K Ho Fo (cells ρt σ2 ++ (.o acc, some (.ref D)) :: τ) H3 → if b = true then teB X scope elt σ2 H3 fun y H4 => ∃ acc, H4 D = some (.lst acc) ∧ acc.length < sizeLine ∧ Pv (upd H4 D (.lst (acc ++ [y]))) else Pv H3 := fun b H3 hb E3 => by
    subst hb
    cases hF : F x with
    | none =>
      show if false = true then _ else _
      rw [if_neg Bool.false_ne_true]
      refine hP H3 ?_
      rw [hF]
      simp only [Option.toList_none, List.append_nil]
      exact back _ _ E3
    | some y =>
      show if true = true then _ else _
      rw [if_pos rfl]
      intro X' hX
      refine he y hF X' hX _ (exc_blk hN hX) Ho Fo σ2 _ H3 _ hl2 (by rw [blk_K hX]; exact E3) fun w H4 E4 => ?_
      rw [blk_K hX] at E4
      have E5 := (back _ _ E4)
      obtain ⟨Fp, e5⟩ := E5
      obtain ⟨w', q1, q2⟩ := e5.ok (Sl.d y, some w) (List.mem_append_right _ List.mem_cons_self)
      cases q1
      obtain ⟨p', us, q3, q4, q5⟩ := e5.ok (Sl.o acc, some (.ref D)) (List.mem_append_right _ (List.mem_cons_of_mem _ List.mem_cons_self))
      cases q3
      refine ⟨us, q4, by rw [dps_len q5]; exact Nat.lt_of_lt_of_le hz (by decide), hP _ ?_⟩
      have e6 : EnvF X.K Ho Fo Fp H4 ((Sl.o acc, some (V.ref D)) :: (cells ρ σ ++ τ)) := (e5.sub ((List.sublist_cons_self _ _).append_left _)).perm List.perm_middle
      have e7 := e6.mutF (vs' := us ++ [w]) (xs' := acc ++ [y]) (dps_app q5 (.cons q2 .nil))
      rw [hF]
      exact ⟨Fp, e7.perm List.perm_middle.symm⟩
  match ifs, hq, hi with
  | [], _, hi =>
    have E3 := E2
    have X0 : ∀ s0 : Shared, Bk X scope (X.blk s0 H2 scope (compEnvC scope [] 0 X.env) []) := fun s0 => ⟨_, _, _, _, _, rfl⟩
    exact tail true H2 (hi _ (X0 X.s_0)).symm E3
  | [c], _, hi =>
    intro X' hX
    refine hi X' hX _ (exc_blk hN hX) Ho Fo σ2 _ H2 _ hl2 (by rw [blk_K hX]; exact E2) fun H3 E3 => ?_
    rw [blk_K hX] at E3
    exact tail _ H3 rfl E3
theorem lc_runL {vs : List Nat} {F : PyData → Option PyData} {xs : List PyData} {ρt : PyData → List Sl} {W : WX} (hW : Exc X W) (hu : ∀ q ∈ vs, ρ[q]? = some Sl.u) (hz : xs.length ≤ 100000) (hi : DE X iter ρ (.ok (.d (.list xs))))
    (ht : ∀ x ∈ xs, TGw X.K g vs ρ x (ρt x)) (hw : ∀ x ∈ xs, Wk (ρt x) ρ) (hq : ifs.length ≤ 1) (hif : ∀ x ∈ xs, ∀ X', Bk X scope X' → DTs X' ifs (ρt x) (F x).isSome) (he : ∀ x ∈ xs, ∀ y, F x = some y → ∀ X', Bk X scope X' → DE X' elt (ρt x) (.ok (.d y)))
    {Ho Fo : Hp} {σ : St} {τ : List Cell} {H : Hp} {Q : VK} (hl : σ.length = ρ.length) (E : Env X.K Ho Fo (cells ρ σ ++ τ) H) (hQ : ∀ v H', Env X.K Ho Fo (cells ρ σ ++ (.o (xs.filterMap F), some v) :: τ) H' → Q v H') :
    tLc (iList X.K (tE X iter)) g (ttB X scope ifs) (teB X scope elt) vs σ H Q := by
  refine hi W hW Ho Fo σ τ H _ hl E fun v H1 E1 => ?_
  obtain ⟨w, e1, e2⟩ := E1.fget (List.mem_append_right _ List.mem_cons_self)
  cases e1
  cases e2 with
  | lst ha hd =>
    rename_i a ws
    refine ⟨a, rfl, ⟨ws, .of ha⟩, fun D hD => ?_⟩
    have hwl := dps_len hd
    have look : ∀ (L : List Cell) H', Env X.K Ho Fo (L ++ (Sl.d (.list xs), some (.ref a)) :: τ) H' → ∃ us, SqL X.K H' a us ∧ us.length = xs.length ∧ ∀ (i : Nat) (w : V), us[i]? = some w → ∃ x, xs[i]? = some x ∧ Env X.K Ho Fo (L ++ (Sl.d x, some w) :: (Sl.d (.list xs), some (.ref a)) :: τ) H' := fun L H' E' => by
      obtain ⟨F, e⟩ := E'
      obtain ⟨w', e3, e4⟩ := e.ok (Sl.d (.list xs), some (.ref a)) (List.mem_append_right _ List.mem_cons_self)
      cases e3
      cases e4 with
      | lst ha' hd' =>
        rename_i us
        refine ⟨us, .of (e.inn _ _ ha'), dps_len hd', fun i w hw => ?_⟩
        obtain ⟨x, h1, h2⟩ := dps_get' hd' hw
        exact ⟨x, h1, Env.unmid ⟨F, e.consN (c := (.d x, some w)) ⟨w, rfl, h2⟩ rfl⟩⟩
    refine ⟨fun i q H => q = xs.length - i ∧ i ≤ xs.length ∧ Env X.K Ho Fo (cells ρ σ ++ (.o ((xs.take i).filterMap F), some (.ref D)) :: (Sl.d (.list xs), some (.ref a)) :: τ) H, ⟨_, rfl, Nat.zero_le _, ?_⟩, fun i q H' ⟨_, him, E'⟩ => ?_⟩
    · exact (E1.newL (xs := []) hD fun _ _ => .nil).unmid
    · have E'' : Env X.K Ho Fo ((cells ρ σ ++ [(.o ((xs.take i).filterMap F), some (.ref D))]) ++ (Sl.d (.list xs), some (.ref a)) :: τ) H' := by rw [List.append_assoc]; exact E'
      obtain ⟨us, hs, hul, nth⟩ := look _ _ E''
      by_cases hlt : i < xs.length
      · refine .inr ⟨⟨us, us[i]'(by omega), hs, List.getElem?_eq_getElem (by omega)⟩, fun H'' => i + 1 ≤ xs.length ∧ Env X.K Ho Fo (cells ρ σ ++ (.o ((xs.take (i + 1)).filterMap F), some (.ref D)) :: (Sl.d (.list xs), some (.ref a)) :: τ) H'', fun H2 ⟨g1, g2⟩ => ⟨_, by omega, rfl, g1, g2⟩, fun w H2 hy => ?_⟩
        obtain ⟨e2, hy⟩ := hy
        subst e2
        have ew := hy us hs
        obtain ⟨x, hx, E3⟩ := nth i w ew
        have hm : x ∈ xs := List.mem_of_getElem? hx
        have el : (xs.take (i + 1)).filterMap F = (xs.take i).filterMap F ++ (F x).toList := by
          rw [List.take_add_one, hx, List.filterMap_append]
          cases hF : F x <;> simp [hF]
        have zl : ((xs.take i).filterMap F).length < 100000 := by
          have h1 := List.length_filterMap_le F (xs.take i)
          rw [List.length_take] at h1
          omega
        refine lc_turn (Ho := Ho) (Fo := Fo) (F := F) (D := D) (τ := (Sl.d (.list xs), some (.ref a)) :: τ) (acc := (xs.take i).filterMap F) (Pv := fun H'' => i + 1 ≤ xs.length ∧ Env X.K Ho Fo (cells ρ σ ++ (.o ((xs.take (i + 1)).filterMap F), some (.ref D)) :: (Sl.d (.list xs), some (.ref a)) :: τ) H'') hW.2.2 hu hl zl (ht x hm) (hw x hm) hq (hif x hm) (he x hm) ?_ fun H' E4 => ⟨hlt, ?_⟩
        · refine E3.perm ?_
          rw [List.append_assoc]
          exact List.Perm.append_left _ (List.Perm.swap _ _ _)
        · rw [el]; exact E4
      · have : i = xs.length := by omega
        subst this
        refine .inl ⟨⟨us, hs, by omega⟩, hQ _ _ ?_⟩
        rw [List.take_length] at E'
        exact E'.sub (((List.sublist_cons_self _ _).cons_cons _).append_left _)
theorem lc_runR {vs : List Nat} {F : PyData → Option PyData} {lo : Int} {nn : Nat} {wi : TI} {ρt : PyData → List Sl} {W : WX} (hW : Exc X W) (hu : ∀ q ∈ vs, ρ[q]? = some Sl.u) (hz : nn ≤ 100000)
    (hi : ∀ W, Exc X W → ∀ (Ho Fo : Hp) (σ : St) (τ : List Cell) (H : Hp) (R : It → Hp → Prop), σ.length = ρ.length → Env X.K Ho Fo (cells ρ σ ++ τ) H → (∀ H', Env X.K Ho Fo (cells ρ σ ++ τ) H' → R (Itr lo nn) H') → wi σ H R)
    (ht : ∀ i : Nat, i < nn → TGw X.K g vs ρ (.int (lo + i)) (ρt (.int (lo + i)))) (hw : ∀ i : Nat, i < nn → Wk (ρt (.int (lo + i))) ρ) (hq : ifs.length ≤ 1) (hif : ∀ i : Nat, i < nn → ∀ X', Bk X scope X' → DTs X' ifs (ρt (.int (lo + i))) (F (.int (lo + i))).isSome) (he : ∀ i : Nat, i < nn → ∀ y, F (.int (lo + i)) = some y → ∀ X', Bk X scope X' → DE X' elt (ρt (.int (lo + i))) (.ok (.d y)))
    {Ho Fo : Hp} {σ : St} {τ : List Cell} {H : Hp} {Q : VK} (hl : σ.length = ρ.length) (E : Env X.K Ho Fo (cells ρ σ ++ τ) H) (hQ : ∀ v H', Env X.K Ho Fo (cells ρ σ ++ (.o (((List.range nn).map fun i => PyData.int (lo + (i : Nat))).filterMap F), some v) :: τ) H' → Q v H') :
    tLc wi g (ttB X scope ifs) (teB X scope elt) vs σ H Q := by
  refine hi W hW Ho Fo σ τ H _ hl E fun H1 E1 => ?_
  intro D hD
  refine ⟨fun i q H => q = nn - i ∧ i ≤ nn ∧ Env X.K Ho Fo (cells ρ σ ++ (.o (((List.range i).map fun i => PyData.int (lo + (i : Nat))).filterMap F), some (.ref D)) :: τ) H, ⟨_, rfl, Nat.zero_le _, ?_⟩, fun i q H' ⟨_, him, E'⟩ => ?_⟩
  · exact (E1.newL (xs := []) hD fun _ _ => .nil).unmid
  · by_cases hlt : i < nn
    · refine .inr ⟨hlt, fun H'' => i + 1 ≤ nn ∧ Env X.K Ho Fo (cells ρ σ ++ (.o (((List.range (i + 1)).map fun i => PyData.int (lo + (i : Nat))).filterMap F), some (.ref D)) :: τ) H'', fun H2 ⟨g1, g2⟩ => ⟨_, by omega, rfl, g1, g2⟩, fun w H2 hy => ?_⟩
      obtain ⟨e2, hy⟩ := hy
      subst e2 hy
      have el : (((List.range (i + 1)).map fun i => PyData.int (lo + (i : Nat))).filterMap F) = (((List.range i).map fun i => PyData.int (lo + (i : Nat))).filterMap F) ++ (F (.int (lo + i))).toList := by
        rw [List.range_succ, List.map_append, List.filterMap_append]
        cases hF : F (.int (lo + i)) <;> simp [hF]
      have zl : (((List.range i).map fun i => PyData.int (lo + (i : Nat))).filterMap F).length < 100000 := by
        have h1 := List.length_filterMap_le F ((List.range i).map fun i => PyData.int (lo + (i : Nat)))
        rw [List.length_map, List.length_range] at h1
        omega
      refine lc_turn (Ho := Ho) (Fo := Fo) (F := F) (D := D) (τ := τ) (acc := ((List.range i).map fun i => PyData.int (lo + (i : Nat))).filterMap F) (Pv := fun H'' => i + 1 ≤ nn ∧ Env X.K Ho Fo (cells ρ σ ++ (.o (((List.range (i + 1)).map fun i => PyData.int (lo + (i : Nat))).filterMap F), some (.ref D)) :: τ) H'') hW.2.2 hu hl zl (ht i hlt) (hw i hlt) hq (hif i hlt) (he i hlt) ?_ fun H' E4 => ⟨hlt, ?_⟩
      · exact (E'.int _).unmid
      · rw [el]; exact E4
    · have : i = nn := by omega
      subst this
      exact .inl ⟨Nat.le_refl _, hQ _ _ E'⟩
theorem de_lc {F : PyData → Option PyData} {xs : List PyData} (own : List (Str × Nat)) (ρt : PyData → List Sl) (hc : X.calm = true) (hi : DE X iter ρ (.ok (.d (.list xs)))) (ok : BlkOk X.N X.env.scope scope own) (hg : ∀ (s : Shared) (H : Hp) (C : Addr) (cl : List (Str × Addr)) (fp : List Addr), PG (X.blk s H scope (compEnvC scope cl C X.env) fp) tg g)
    (hu : ∀ q ∈ own.map (·.2), ρ[q]? = some Sl.u) (hz : xs.length ≤ 100000) (ht : ∀ x ∈ xs, TGw X.K g (own.map (·.2)) ρ x (ρt x)) (hw : ∀ x ∈ xs, Wk (ρt x) ρ) (hif : ∀ x ∈ xs, ∀ X', Bk X scope X' → DTs X' ifs (ρt x) (F x).isSome) (he : ∀ x ∈ xs, ∀ y, F x = some y → ∀ X', Bk X scope X' → DE X' elt (ρt x) (.ok (.d y)))
    (hq : ifs.length ≤ 1 := by decide) (hs : ∀ x, foldedSetIterable iter X.env x = pure x := by intro _; rfl) : DE X (.ListComp elt [⟨tg, iter, ifs, 0⟩] scope pos) ρ (.ok (.o (xs.filterMap F))) := fun W hW Ho Fo σ τ H Q hl E hQ =>
  tE_of (pe_lc hc hW.2.2 (pi_list pe_) ok hg (pts_ hq) (fun s H C cl fp => ⟨fun pins s' σ H' Q I h => h _ ⟨s, H, C, cl, fp, rfl⟩ pins s' I⟩) hs) (lc_runL hW hu hz hi ht hw hq hif he hl E hQ)
theorem ds_setLc {F : PyData → Option PyData} {xs : List PyData} {y : Str} {py : Pos} (own : List (Str × Nat)) (i : Nat) (ρt : PyData → List Sl) (hc : X.calm = true) (hi : DE X iter ρ (.ok (.d (.list xs)))) (ok : BlkOk X.N X.env.scope scope own) (hg : ∀ (s : Shared) (H : Hp) (C : Addr) (cl : List (Str × Addr)) (fp : List Addr), PG (X.blk s H scope (compEnvC scope cl C X.env) fp) tg g)
    (hu : ∀ q ∈ own.map (·.2), ρ[q]? = some Sl.u) (hz : xs.length ≤ 100000) (ht : ∀ x ∈ xs, TGw X.K g (own.map (·.2)) ρ x (ρt x)) (hw : ∀ x ∈ xs, Wk (ρt x) ρ) (hif : ∀ x ∈ xs, ∀ X', Bk X scope X' → DTs X' ifs (ρt x) (F x).isSome) (he : ∀ x ∈ xs, ∀ y, F x = some y → ∀ X', Bk X scope X' → DE X' elt (ρt x) (.ok (.d y)))
    (hlt : i < ρ.length) (hy : X.N[i]? = some y := by rfl) (hyl : X.env.scope.names.lookup y = some .local := by rfl) (hsw : swapsWith (.ListComp elt [⟨tg, iter, ifs, 0⟩] scope apos) (some (.Name y py)) pos.line X.env = pure true := by exact sw_true rfl rfl rfl (by decide +kernel)) (hq : ifs.length ≤ 1 := by decide)
    (hs : ∀ x, foldedSetIterable iter X.env x = pure x := by intro _; rfl) : DS X (.Assign [.Name y py] (.ListComp elt [⟨tg, iter, ifs, 0⟩] scope apos) pos) ρ (.nx (ρ.set i (.o (xs.filterMap F)))) := fun W hW Ho Fo σ τ H D hl E hQ =>
  tS_of (L2.ps_setLc hc hW.2.2 hy hyl hsw (pi_list pe_) ok hg (pts_ hq) (fun s H C cl fp => ⟨fun pins s' σ H' Q I h => h _ ⟨s, H, C, cl, fp, rfl⟩ pins s' I⟩) hs) (lc_runL (Q := fun v H' => gName i v σ H' D.nx) hW hu hz hi ht hw hq hif he hl E fun v H' E' => hQ _ _ (by rw [List.length_set, List.length_set]; exact hl) (E'.mid.push hl hlt))
end
end DL

namespace DL
open PySem PySem.Spec PyProof.Rows L2
def ins (x : Int) : List Int → List Int
  | [] => [x]
  | y :: r => if x ≤ y then x :: y :: r else y :: ins x r
def srt : List Int → List Int
  | [] => []
  | x :: r => ins x (srt r)
theorem ins_perm (x : Int) : ∀ l : List Int, (ins x l).Perm (x :: l)
  | [] => List.Perm.refl _
  | y :: r => by
    unfold ins
    split
    · exact List.Perm.refl _
    · exact ((ins_perm x r).cons y).trans (List.Perm.swap _ _ _)
theorem srt_perm : ∀ l : List Int, (srt l).Perm l
  | [] => List.Perm.refl _
  | x :: r => (ins_perm x (srt r)).trans ((srt_perm r).cons x)
theorem ins_ord (x : Int) : ∀ l : List Int, l.Pairwise (· ≤ ·) → (ins x l).Pairwise (· ≤ ·)
  | [], _ => List.pairwise_singleton _ _
  | y :: r, h => by
    rw [List.pairwise_cons] at h
    unfold ins
    split
    · rename_i hx
      refine List.pairwise_cons.mpr ⟨fun z hz => ?_, List.pairwise_cons.mpr h⟩
      rcases List.mem_cons.mp hz with rfl | hz
      · exact hx
      · exact Int.le_trans hx (h.1 z hz)
    · rename_i hx
      refine List.pairwise_cons.mpr ⟨fun z hz => ?_, ins_ord x r h.2⟩
      rcases List.mem_cons.mp ((ins_perm x r).mem_iff.mp hz) with rfl | hz
      · omega
      · exact h.1 z hz
theorem srt_ord : ∀ l : List Int, (srt l).Pairwise (· ≤ ·)
  | [] => List.Pairwise.nil
  | x :: r => ins_ord x _ (srt_ord r)
theorem ord_eq {a b : List Int} (hp : a.Perm b) (ha : a.Pairwise (· ≤ ·)) (hb : b.Pairwise (· ≤ ·)) : a = b :=
  hp.eq_of_pairwise (fun x y _ _ h1 h2 => Int.le_antisymm h1 h2) ha hb
theorem srt_is {a b : List Int} (hp : a.Perm b) (ha : a.Pairwise (· ≤ ·)) : a = srt b := ord_eq (hp.trans (srt_perm b).symm) ha (srt_ord b)
theorem srt_len (l : List Int) : (srt l).length = l.length := (srt_perm l).length_eq
def nub (ns : List Int) : List Int := ns.foldl PyProof.Rows.step_dedup []
theorem map_getD (ns : List Int) : (List.range ns.length).map (fun i => ns.getD i 0) = ns := by
  refine List.ext_getElem (by simp) fun i h1 h2 => ?_
  simp [List.getElem_map, List.getElem_range, List.getD_eq_getElem?_getD, List.getElem?_eq_getElem h2]
theorem firstMet_nub (ns : List Int) : PyProof.Rows.firstMet (fun i => ns.getD i 0) ns.length = nub ns := by
  unfold PyProof.Rows.firstMet nub
  rw [map_getD]
theorem dedup_step (acc : List Int) (x : Int) : PyProof.Rows.step_dedup acc x = if x ∈ acc then acc else acc ++ [x] := by
  unfold PyProof.Rows.step_dedup
  have e : acc.any (· == x) = decide (x ∈ acc) := by
    rw [Bool.eq_iff_iff, List.any_eq_true, decide_eq_true_iff]
    exact ⟨fun ⟨y, h1, h2⟩ => by rw [← eq_of_beq h2]; exact h1, fun h => ⟨x, h, beq_self_eq_true x⟩⟩
  rw [e]
  by_cases h : x ∈ acc
  · simp [h]
  · simp [h]
theorem nub_len_le : ∀ (ns acc : List Int), (ns.foldl PyProof.Rows.step_dedup acc).length ≤ acc.length + ns.length
  | [], acc => Nat.le_refl _
  | x :: r, acc => by
    have h := nub_len_le r (PyProof.Rows.step_dedup acc x)
    rw [List.foldl_cons, List.length_cons]
    have h2 : (PyProof.Rows.step_dedup acc x).length ≤ acc.length + 1 := by
      rw [dedup_step]
      split
      · omega
      · simp
    omega
theorem nub_iff : ∀ (ns acc : List Int), acc.Nodup → ((ns.foldl PyProof.Rows.step_dedup acc).length = acc.length + ns.length ↔ (acc ++ ns).Nodup)
  | [], acc, h => by simp [h]
  | x :: r, acc, h => by
    rw [List.foldl_cons, dedup_step]
    by_cases hx : x ∈ acc
    · rw [if_pos hx]
      constructor
      · intro e
        have := nub_len_le r acc
        rw [List.length_cons] at e
        omega
      · intro e
        rw [List.nodup_append] at e
        exact absurd rfl (e.2.2 x hx x List.mem_cons_self)
    · rw [if_neg hx]
      have h2 : (acc ++ [x]).Nodup := by
        rw [List.nodup_append]
        exact ⟨h, by simp, fun a ha b hb => by
          rw [List.mem_singleton] at hb
          subst hb
          exact fun e => hx (e ▸ ha)⟩
      have ih := nub_iff r (acc ++ [x]) h2
      rw [List.append_assoc] at ih
      rw [← show (acc ++ ([x] ++ r)) = acc ++ x :: r from rfl, ← ih, List.length_append, List.length_singleton, List.length_cons]
      omega
theorem nub_nodup (ns : List Int) : (nub ns).length = ns.length ↔ ns.Nodup := by
  have := nub_iff ns [] List.nodup_nil
  simpa [nub] using this
theorem nub_le (ns : List Int) : (nub ns).length ≤ ns.length := by
  have := nub_len_le ns []
  simpa [nub] using this
def tyN : PyData → String
  | .none => "NoneType"
  | .bool _ => "bool"
  | .int _ => "int"
  | .str _ => "str"
  | .list _ => "list"
  | .tuple _ => "tuple"
  | .dict _ => "dict"
theorem rp_ty {K : Frag} {F : Hp} {v : V} {x : PyData} (h : Rp F v x) : TyOf K F v (.type (tyN x)) := by
  cases h with
  | non => exact .non
  | bl b => exact .bl b
  | int i => exact .int i
  | str s => exact .str s
  | lst h _ => exact .lst h
  | tup h _ => exact .tup h
section
variable {X : Cx} {a b c e f : Expr} {es : List Expr} {ρ : List Sl} {pos apos : Pos} {x y z : PyData} {k k1 k2 : Sl} {n : Str} {i j : Int} {xs ys : List PyData} {ns : List Int}
theorem de_ty {T : String} (hm : X.mg n = none) (hv : bootBuiltins n = some (.type T)) (hg : Gl X n := by rfl) (hn : n ≠ "__name__" := by decide) (hd : (n == ("__debug__" : Str)) = false := by decide) : DE X (.Name n pos) ρ (.ok (.v (.ty T))) := fun W hW Ho Fo σ τ H Q hl E hQ =>
  tE_of (pe_bltn (v := .ty T) hg hm hv rfl hn hd) (hQ _ _ (E.raw _).unmid)
theorem de_gstr {u : Str} {t : Tok} (hm : X.mg n = some (.str u t)) (hg : Gl X n := by rfl) (hd : (n == ("__debug__" : Str)) = false := by decide) : DE X (.Name n pos) ρ (.ok (.d (.str u))) := fun W hW Ho Fo σ τ H Q hl E hQ =>
  tE_of (pe_glob (v := .str u) hg hm ⟨_, rfl⟩ hd) (hQ _ _ (E.str u).unmid)
theorem de_isi {T : String} {p p2 : Pos} {q : Bool} (hm : X.mg "isinstance" = none) (ha : DE X a ρ (.ok (.d x))) (hm2 : X.mg n = none) (hv : bootBuiltins n = some (.type T)) (hk : kitB (tyN x) T = some q := by (first | rfl | exact (by decide +kernel))) (hg : Gl X "isinstance" := by rfl) (hg2 : Gl X n := by rfl) (hn2 : n ≠ "__name__" := by decide) (hd2 : (n == ("__debug__" : Str)) = false := by decide)
    (he : starEach (a :: [.Name n p2]) X.env = (false, eval a X.env) :: starEach [.Name n p2] X.env := by rfl) (he2 : starEach [.Name n p2] X.env = (false, eval (.Name n p2) X.env) :: starEach [] X.env := by rfl) (hpl : (backTo pos (starEach [.Name n p2] X.env)).any (·.1) = false := by rfl) :
    DE X (.Call (.Name "isinstance" p) [a, .Name n p2] [] pos) ρ (.ok (.d (.bool q))) :=
  de_callB call_isi hm boot_isinstance (da_cons ha (da_cons (de_ty hm2 hv hg2 hn2 hd2) da_nil he2) he) (fun Ho Fo L vs H Q hl E hQ => by
    match vs, hl with
    | [v, c], _ =>
      obtain ⟨w, e1, h1⟩ := E.fget List.mem_cons_self
      cases e1
      obtain ⟨F, e⟩ := E
      have q2 : some c = some (V.ty T) := e.ok (Sl.v (.ty T), some c) (List.mem_cons_of_mem _ List.mem_cons_self)
      cases q2
      exact ⟨v, .ty T, _, _, q, rfl, .ty T, .base (rp_ty h1), kit_ty hk, hQ _ _ (Env.bl (L := L) ⟨F, e.tail.tail⟩ q)⟩) hg (by decide) (by decide) he hpl
theorem rc_list {K : Frag} {r : List V → Hp → VK → Prop} (h : ∀ (Ho Fo F : Hp) (L : List Cell) (p : Addr) (vs : List V) (H : Hp) (Q : VK), EnvF K Ho Fo F H L → F p = some (.lst vs) → H p = some (.lst vs) → RpAll F vs xs → (∀ z H', Env K Ho Fo ((k, some z) :: L) H' → Q z H') → r [.ref p] H Q) : RC K r [.d (.list xs)] k := rc_one fun Ho Fo L v H Q E hQ => by
  obtain ⟨F, e⟩ := E
  obtain ⟨w, e1, h1⟩ := e.ok _ List.mem_cons_self
  cases e1
  cases h1 with
  | lst hs hd => exact h Ho Fo F L _ _ H Q e.tail hs (e.inn _ _ hs) hd hQ
theorem env_new {K : Frag} {Ho Fo F H : Hp} {L : List Cell} {p : Addr} {vs : List V} (e : EnvF K Ho Fo F H L) (hp : H p = none) (hv : RpAll F vs xs) : Env K Ho Fo ((.o xs, some (.ref p)) :: L) (upd H p (.lst vs)) :=
  ⟨F, (e.new hp).cons ⟨p, vs, rfl, upd_same, hv⟩ fun q hq => by
    have eq : p = q := Option.some.inj hq
    subst eq
    refine ⟨fun hm => ?_, e.inn.free hp, e.sH.free hp⟩
    obtain ⟨o, ho⟩ := e.at hm
    rw [hp] at ho; cases ho⟩
theorem env_newT {K : Frag} {Ho Fo F H : Hp} {L : List Cell} {p : Addr} {vs : List V} (e : EnvF K Ho Fo F H L) (hp : H p = none) (hv : RpAll F vs xs) : Env K Ho Fo ((.d (.tuple xs), some (.ref p)) :: L) (upd H p (.tup vs)) := by
  have hF : F p = none := e.inn.free hp
  refine ⟨upd F p (.tup vs), (e.lay hp).consN ⟨.ref p, rfl, .tup upd_same (dps_mono (fun b u q => ?_) hv)⟩ rfl⟩
  rw [upd_ne (ne_of_none q hF)]; exact q
theorem de_sorted {p : Pos} (hm : X.mg "sorted" = none) (ha : DE X e ρ (.ok (.d (.list (LI ns))))) (hg : Gl X "sorted" := by rfl) (hs : starEach [e] X.env = (false, eval e X.env) :: starEach [] X.env := by rfl) : DE X (.Call (.Name "sorted" p) [e] [] pos) ρ (.ok (.o (LI (srt ns)))) :=
  de_callB cr_sortedI hm boot_sorted (da_cons ha da_nil hs) (rc_list fun Ho Fo F L p vs H Q e hF hH hv hQ => by
    rw [dps_ints hv] at hH
    refine ⟨p, ns, rfl, .of hH, fun ns' q hp ho hn => ?_⟩
    rw [srt_is hp ho]
    exact hQ _ _ (env_new e hn (ints_dps _))) hg (by decide) (by decide) hs
theorem de_sum {p : Pos} (hc : X.calm = true) (hm : X.mg "sum" = none) (ha : DE X e ρ (.ok (.d (.list (LI ns))))) (hg : Gl X "sum" := by rfl) (hs : starEach [e] X.env = (false, eval e X.env) :: starEach [] X.env := by rfl) : DE X (.Call (.Name "sum" p) [e] [] pos) ρ (.ok (.d (.int ns.sum))) :=
  de_callB (cr_sum hc) hm boot_sum (da_cons ha da_nil hs) (rc_list fun Ho Fo F L p vs H Q e hF hH hv hQ => by
    rw [dps_ints hv] at hH
    exact ⟨p, ns, rfl, .of hH, hQ _ _ (Env.int ⟨F, e⟩ _)⟩) hg (by decide) (by decide) hs
def mn (ns : List Int) : Int := ns.tail.foldl min (ns.headD 0)
def mx (ns : List Int) : Int := ns.tail.foldl max (ns.headD 0)
theorem foldl_min_le : ∀ (l : List Int) (a : Int), l.foldl min a ≤ a ∧ (∀ y ∈ l, l.foldl min a ≤ y) ∧ (l.foldl min a = a ∨ l.foldl min a ∈ l)
  | [], a => ⟨Int.le_refl a, (fun y h => absurd h List.not_mem_nil), Or.inl rfl⟩
  | x :: r, a => by
    obtain ⟨h1, h2, h3⟩ := foldl_min_le r (min a x)
    rw [List.foldl_cons]
    refine ⟨by omega, fun y hy => ?_, ?_⟩
    · rcases List.mem_cons.mp hy with rfl | hy
      · omega
      · exact h2 y hy
    · rcases h3 with h3 | h3
      · rcases Int.le_total a x with h | h
        · exact .inl (by omega)
        · exact .inr (by rw [h3]; exact List.mem_cons.mpr (.inl (by omega)))
      · exact .inr (List.mem_cons_of_mem _ h3)
theorem foldl_max_le : ∀ (l : List Int) (a : Int), a ≤ l.foldl max a ∧ (∀ y ∈ l, y ≤ l.foldl max a) ∧ (l.foldl max a = a ∨ l.foldl max a ∈ l)
  | [], a => ⟨Int.le_refl a, (fun y h => absurd h List.not_mem_nil), Or.inl rfl⟩
  | x :: r, a => by
    obtain ⟨h1, h2, h3⟩ := foldl_max_le r (max a x)
    rw [List.foldl_cons]
    refine ⟨by omega, fun y hy => ?_, ?_⟩
    · rcases List.mem_cons.mp hy with rfl | hy
      · omega
      · exact h2 y hy
    · rcases h3 with h3 | h3
      · rcases Int.le_total a x with h | h
        · exact .inr (by rw [h3]; exact List.mem_cons.mpr (.inl (by omega)))
        · exact .inl (by omega)
      · exact .inr (List.mem_cons_of_mem _ h3)
theorem mn_le (h : 0 < ns.length) : (∀ y ∈ ns, mn ns ≤ y) ∧ mn ns ∈ ns := by
  match ns, h with
  | x :: r, _ =>
    obtain ⟨h1, h2, h3⟩ := foldl_min_le r x
    refine ⟨fun y hy => ?_, ?_⟩
    · rcases List.mem_cons.mp hy with rfl | hy
      · exact h1
      · exact h2 y hy
    · show r.foldl min x ∈ x :: r
      rcases h3 with h3 | h3
      · rw [h3]; exact List.mem_cons_self
      · exact List.mem_cons_of_mem _ h3
theorem mx_le (h : 0 < ns.length) : (∀ y ∈ ns, y ≤ mx ns) ∧ mx ns ∈ ns := by
  match ns, h with
  | x :: r, _ =>
    obtain ⟨h1, h2, h3⟩ := foldl_max_le r x
    refine ⟨fun y hy => ?_, ?_⟩
    · rcases List.mem_cons.mp hy with rfl | hy
      · exact h1
      · exact h2 y hy
    · show r.foldl max x ∈ x :: r
      rcases h3 with h3 | h3
      · rw [h3]; exact List.mem_cons_self
      · exact List.mem_cons_of_mem _ h3
theorem de_min {p : Pos} (hc : X.calm = true) (hm : X.mg "min" = none) (ha : DE X e ρ (.ok (.d (.list (LI ns))))) (h0 : 0 < ns.length) (hg : Gl X "min" := by rfl) (hs : starEach [e] X.env = (false, eval e X.env) :: starEach [] X.env := by rfl) : DE X (.Call (.Name "min" p) [e] [] pos) ρ (.ok (.d (.int (mn ns)))) :=
  de_callB (cr_min hc) hm boot_min (da_cons ha da_nil hs) (rc_list fun Ho Fo F L p vs H Q e hF hH hv hQ => by
    rw [dps_ints hv] at hH
    refine ⟨p, ns, rfl, .of hH, h0, fun m hm hle => ?_⟩
    have q := mn_le h0
    have eq : m = mn ns := Int.le_antisymm (hle _ q.2) (q.1 _ hm)
    rw [eq]
    exact hQ _ _ (Env.int ⟨F, e⟩ _)) hg (by decide) (by decide) hs
theorem de_max {p : Pos} (hc : X.calm = true) (hm : X.mg "max" = none) (ha : DE X e ρ (.ok (.d (.list (LI ns))))) (h0 : 0 < ns.length) (hg : Gl X "max" := by rfl) (hs : starEach [e] X.env = (false, eval e X.env) :: starEach [] X.env := by rfl) : DE X (.Call (.Name "max" p) [e] [] pos) ρ (.ok (.d (.int (mx ns)))) :=
  de_callB (cr_max hc) hm boot_max (da_cons ha da_nil hs) (rc_list fun Ho Fo F L p vs H Q e hF hH hv hQ => by
    rw [dps_ints hv] at hH
    refine ⟨p, ns, rfl, .of hH, h0, fun m hm hle => ?_⟩
    have q := mx_le h0
    have eq : m = mx ns := Int.le_antisymm (q.1 _ hm) (hle _ q.2)
    rw [eq]
    exact hQ _ _ (Env.int ⟨F, e⟩ _)) hg (by decide) (by decide) hs
theorem de_list {p : Pos} (hm : X.mg "list" = none) (ha : DE X e ρ (.ok (.d (.list xs)))) (hg : Gl X "list" := by rfl) (hs : starEach [e] X.env = (false, eval e X.env) :: starEach [] X.env := by rfl) : DE X (.Call (.Name "list" p) [e] [] pos) ρ (.ok (.o xs)) :=
  de_callTy call_list_of hm PyProof.Rows.boot_list (da_cons ha da_nil hs) (rc_list fun Ho Fo F L p vs H Q e hF hH hv hQ => ⟨p, vs, rfl, .inl (.of hH), fun l hl => hQ _ _ (env_new e hl hv)⟩) hg (by decide) (by decide) hs
theorem de_tupleL {p : Pos} (hm : X.mg "tuple" = none) (ha : DE X e ρ (.ok (.d (.list xs)))) (hg : Gl X "tuple" := by rfl) (hs : starEach [e] X.env = (false, eval e X.env) :: starEach [] X.env := by rfl) : DE X (.Call (.Name "tuple" p) [e] [] pos) ρ (.ok (.d (.tuple xs))) :=
  de_callTy call_tuple_of hm PyProof.Rows.boot_tuple (da_cons ha da_nil hs) (rc_list fun Ho Fo F L p vs H Q e hF hH hv hQ => ⟨p, vs, rfl, .inl ⟨.of hH, fun l hl => hQ _ _ (env_newT e hl hv)⟩⟩) hg (by decide) (by decide) hs
theorem de_listRg {p p2 q : Pos} (hc : X.calm = true) (hm : X.mg "list" = none) (hm2 : X.mg "range" = none) (ha : DE X a ρ (.ok (.d (.int i)))) (h0 : 0 ≤ i ∧ i ≤ 100000) (hg : Gl X "list" := by rfl) (hg2 : Gl X "range" := by rfl) (na2 : starEach [a] X.env = (false, eval a X.env) :: starEach [] X.env := by rfl)
    (na : starEach [.Call (.Name "range" p2) [a] [] q] X.env = (false, eval (.Call (.Name "range" p2) [a] [] q) X.env) :: starEach [] X.env := by rfl) : DE X (.Call (.Name "list" p) [.Call (.Name "range" p2) [a] [] q] [] pos) ρ (.ok (.o (LI ((List.range i.toNat).map (Int.ofNat))))) := fun W hW Ho Fo σ τ H Q hl E hQ =>
  tE_of (pe_listRg hc hg hm (prg_1 hg2 hm2 pe_ na2) na) (ha W hW Ho Fo σ τ H _ hl E fun v H1 E1 => by
    obtain ⟨w, e1, h1⟩ := E1.mid.fget List.mem_cons_self
    cases e1
    refine ⟨i, dp_int h1, .of_le (by omega) (by omega) (by omega) (by omega), fun q hq => ?_⟩
    obtain ⟨F, e⟩ := E1.mid.tail
    refine hQ _ _ (Env.unmid (env_new e hq ?_))
    have er : rgV 0 i = ((List.range i.toNat).map (Int.ofNat)).map V.int := by
      unfold rgV
      rw [List.map_map]
      have : (i - 0).toNat = i.toNat := by omega
      rw [this]
      refine List.map_congr_left fun j _ => ?_
      simp
    rw [er]
    exact ints_dps _)
def tLenSet2 (K : Frag) (ta : TE) : TE := fun σ H Q => ta σ H fun x H1 => ∃ (l : Addr) (ns : List Int), x = .ref l ∧ SqL K H1 l (ns.map V.int) ∧ ns.length ≤ 4000 ∧ Q (.int ((nub ns).length : Nat)) H1
theorem pe_lenSet2 {ta : TE} {p p2 q : Pos} (hg : Gl X "len") (hm : X.mg "len" = none) (hg2 : Gl X "set") (hm2 : X.mg "set" = none) (ha : PE X a ta) (hc : X.calm = true)
    (na : starEach [a] X.env = (false, eval a X.env) :: starEach [] X.env) : PE X (.Call (.Name "len" p) [.Call (.Name "set" p2) [a] [] q] [] pos) (tLenSet2 X.K ta) := by
  refine ⟨fun pins s σ H Q I h => ?_⟩
  refine Call_ (ld_blt I hg hm boot_len ?_)
  refine PyProof.Rows.callWith_builtin1 (PyProof.Rows.args_cons ?_ rfl) rfl rfl
  refine Call_ (ld_blt I hg2 hm2 boot_set ?_)
  refine PyProof.Rows.callWith_type1 (PyProof.Rows.args_cons (thn (ha.run pins s σ H _ I h) fun v s1 ⟨x, H1, I1, r1, q1⟩ => PyProof.Rows.args_nil ?_) na) na rfl
  obtain ⟨l, ns, rfl, hq, hl, q1⟩ := q1
  cases r1
  obtain ⟨its, r, pl, hz⟩ := I1.list hq
  have hlen : its.toArray.size = ns.length := by rw [List.size_toArray, ← r.length, List.length_map]
  refine call_set_list (I1.ok.hd hc) pl.isList (by simpa using RZ.intsAre_vals r) (by rw [hlen]; unfold scanBound; omega) fun h' tk hS hk => ?_
  refine PyProof.Rows.args_nil ?_
  rw [hlen, firstMet_nub] at hS
  obtain ⟨o, es, ep, t, ho, hex, hd, _, _, _, hf, hn⟩ := hS
  have I2 : Inv X pins σ H1 { s1 with heap := h', toks := tk } := I1.kept fun b o e => hk b o (Heap.lt_size e) e
  have := nub_le ns
  exact call_len_set ho hex hd hf (by rw [hn] <;> omega) ⟨.int (nub ns).length, H1, I2.tok _, ⟨_, by rw [hn]⟩, q1⟩
theorem de_lenSet {p p2 q : Pos} (hc : X.calm = true) (hm : X.mg "len" = none) (hm2 : X.mg "set" = none) (ha : DE X a ρ (.ok (.d (.list (LI ns))))) (hz : ns.length ≤ 4000) (hg : Gl X "len" := by rfl) (hg2 : Gl X "set" := by rfl) (na : starEach [a] X.env = (false, eval a X.env) :: starEach [] X.env := by rfl) :
    DE X (.Call (.Name "len" p) [.Call (.Name "set" p2) [a] [] q] [] pos) ρ (.ok (.d (.int (nub ns).length))) := fun W hW Ho Fo σ τ H Q hl E hQ =>
  tE_of (pe_lenSet2 hg hm hg2 hm2 pe_ hc na) (ha W hW Ho Fo σ τ H _ hl E fun v H1 E1 => by
    obtain ⟨w, e1, h1⟩ := E1.mid.fget List.mem_cons_self
    cases e1
    cases h1 with
    | lst hs hd =>
      rw [dps_ints hd] at hs
      exact ⟨_, ns, rfl, .of hs, hz, hQ _ _ (E1.mid.tail.int _).unmid⟩)
def cutD (xs : List PyData) (lo hi : Option Int) : List PyData := (xs.drop (HT.sIx xs.length 0 lo)).take (HT.sIx xs.length xs.length hi - HT.sIx xs.length 0 lo)
theorem rp_cut {F : Hp} {vs : List V} (h : RpAll F vs xs) (lo hi : Option Int) : RpAll F (cutV vs lo hi) (cutD xs lo hi) := by
  unfold cutV cutD
  rw [dps_len h]
  exact dps_take _ (dps_drop _ h)
theorem de_slF {p2 : Pos} {lo : Expr} (he : DE X e ρ (.ok (.d (.list xs)))) (hl' : DE X lo ρ (.ok (.d (.int i)))) : DE X (.Subscript e (.Slice (some lo) none none p2) pos) ρ (.ok (.o (cutD xs (some i) none))) := fun W hW Ho Fo σ τ H Q hl E hQ =>
  tE_of (pe_slice sl_list pe_ (po_some pe_) po_none) (he W hW Ho Fo σ τ H _ hl E fun v H1 E1 => hl' W hW Ho Fo σ _ H1 _ hl E1 fun w H2 E2 => by
    obtain ⟨w', e1, h1⟩ := E2.mid.fget List.mem_cons_self
    cases e1
    refine ⟨i, dp_int h1, ?_⟩
    obtain ⟨F, e⟩ := E2.mid.tail.mid
    obtain ⟨w', e1, h1⟩ := e.ok _ List.mem_cons_self
    cases e1
    cases h1 with
    | lst hs hd => exact ⟨_, _, rfl, .of (e.inn _ _ hs), fun p hp => hQ _ _ (Env.unmid (env_new e.tail hp (rp_cut hd _ _)))⟩)
theorem de_slT {p2 : Pos} {hi : Expr} (he : DE X e ρ (.ok (.d (.list xs)))) (hl' : DE X hi ρ (.ok (.d (.int i)))) : DE X (.Subscript e (.Slice none (some hi) none p2) pos) ρ (.ok (.o (cutD xs none (some i)))) := fun W hW Ho Fo σ τ H Q hl E hQ =>
  tE_of (pe_slice sl_list pe_ po_none (po_some pe_)) (he W hW Ho Fo σ τ H _ hl E fun v H1 E1 => hl' W hW Ho Fo σ _ H1 _ hl E1 fun w H2 E2 => by
    obtain ⟨w', e1, h1⟩ := E2.mid.fget List.mem_cons_self
    cases e1
    refine ⟨i, dp_int h1, ?_⟩
    obtain ⟨F, e⟩ := E2.mid.tail.mid
    obtain ⟨w', e1, h1⟩ := e.ok _ List.mem_cons_self
    cases e1
    cases h1 with
    | lst hs hd => exact ⟨_, _, rfl, .of (e.inn _ _ hs), fun p hp => hQ _ _ (Env.unmid (env_new e.tail hp (rp_cut hd _ _)))⟩)
theorem de_slFT {p2 : Pos} {lo hi : Expr} (he : DE X e ρ (.ok (.d (.list xs)))) (hlo : DE X lo ρ (.ok (.d (.int i)))) (hhi : DE X hi ρ (.ok (.d (.int j)))) : DE X (.Subscript e (.Slice (some lo) (some hi) none p2) pos) ρ (.ok (.o (cutD xs (some i) (some j)))) := fun W hW Ho Fo σ τ H Q hl E hQ =>
  tE_of (pe_slice sl_list pe_ (po_some pe_) (po_some pe_)) (he W hW Ho Fo σ τ H _ hl E fun v H1 E1 => hlo W hW Ho Fo σ _ H1 _ hl E1 fun w H2 E2 => by
    obtain ⟨w', e1, h1⟩ := E2.mid.fget List.mem_cons_self
    cases e1
    refine ⟨i, dp_int h1, hhi W hW Ho Fo σ _ H2 _ hl E2.mid.tail fun w2 H3 E3 => ?_⟩
    obtain ⟨w', e1, h1⟩ := E3.mid.fget List.mem_cons_self
    cases e1
    refine ⟨j, dp_int h1, ?_⟩
    obtain ⟨F, e⟩ := E3.mid.tail.mid
    obtain ⟨w', e1, h1⟩ := e.ok _ List.mem_cons_self
    cases e1
    cases h1 with
    | lst hs hd => exact ⟨_, _, rfl, .of (e.inn _ _ hs), fun p hp => hQ _ _ (Env.unmid (env_new e.tail hp (rp_cut hd _ _)))⟩)
theorem de_rev {kk : Nat} {p1 p2 p3 : Pos} (he : DE X e ρ (.ok (.d (.list xs)))) : DE X (.Subscript e (.Slice none none (some (.UnaryOp .USub (.Constant (.int 1) kk p1) p2)) p3) pos) ρ (.ok (.o xs.reverse)) := fun W hW Ho Fo σ τ H Q hl E hQ =>
  tE_of (pe_revL pe_) (he W hW Ho Fo σ τ H _ hl E fun v H1 E1 => by
    obtain ⟨F, e⟩ := E1.mid
    obtain ⟨w', e1, h1⟩ := e.ok _ List.mem_cons_self
    cases e1
    cases h1 with
    | lst hs hd => exact ⟨_, _, rfl, .of (e.inn _ _ hs), fun p hp => hQ _ _ (Env.unmid (env_new e.tail hp (dps_rev hd)))⟩)
theorem inV_int {F : Hp} {vs : List V} (h : RpAll F vs (LI ns)) : inV (.int i) vs = decide (i ∈ ns) ∧ vs.all flatV = true := by
  rw [dps_ints h]
  refine ⟨?_, ?_⟩
  · unfold inV
    rw [List.any_map, Bool.eq_iff_iff, List.any_eq_true, decide_eq_true_iff]
    constructor
    · rintro ⟨y, h1, h2⟩
      have : (y == i) = true := h2
      rw [← eq_of_beq this]
      exact h1
    · intro h
      exact ⟨i, h, (show (i == i) = true from beq_self_eq_true i)⟩
  · rw [List.all_map, List.all_eq_true]
    intro y _
    rfl
theorem rd_in {K : Frag} (neg : Bool) : RD K (rIn K neg) (.d (.int i)) (.d (.list (LI ns))) (.d (.bool (if neg then !decide (i ∈ ns) else decide (i ∈ ns)))) := fun Ho Fo L v w H Q E hQ => by
  obtain ⟨v', e1, h1⟩ := E.fget List.mem_cons_self
  obtain ⟨w', e2, h2⟩ := E.fget (List.mem_cons_of_mem _ List.mem_cons_self)
  cases e1; cases e2
  cases dp_int h1
  cases h2 with
  | lst hs hd =>
    obtain ⟨q1, q2⟩ := inV_int (i := i) hd
    refine ⟨_, _, rfl, .inl (.of hs), rfl, q2, ?_⟩
    rw [q1]
    exact hQ _ _ (E.tail.tail.bl _)
theorem de_in (ha : DE X a ρ (.ok (.d (.int i)))) (hb : DE X b ρ (.ok (.d (.list (LI ns))))) (hm : behindInMarks .In b = false := by rfl) : DE X (.Compare a [.In] [b] pos) ρ (.ok (.d (.bool (decide (i ∈ ns))))) := de_cmp op_in_seq ha hb hm (rd_in false)
theorem de_notIn (ha : DE X a ρ (.ok (.d (.int i)))) (hb : DE X b ρ (.ok (.d (.list (LI ns))))) (hm : behindInMarks .NotIn b = false := by rfl) : DE X (.Compare a [.NotIn] [b] pos) ρ (.ok (.d (.bool (!decide (i ∈ ns))))) := de_cmp op_notIn_seq ha hb hm (rd_in true)
theorem dt_in (ha : DE X a ρ (.ok (.d (.int i)))) (hb : DE X b ρ (.ok (.d (.list (LI ns))))) (hm : behindInMarks .In b = false := by rfl) : DT X (.Compare a [.In] [b] pos) ρ (.ok (decide (i ∈ ns))) := dt_two op_in_seq ha hb hm (rd_in false)
theorem dt_notIn (ha : DE X a ρ (.ok (.d (.int i)))) (hb : DE X b ρ (.ok (.d (.list (LI ns))))) (hm : behindInMarks .NotIn b = false := by rfl) : DT X (.Compare a [.NotIn] [b] pos) ρ (.ok (!decide (i ∈ ns))) := dt_two op_notIn_seq ha hb hm (rd_in true)
theorem de_mulW (ha : DE X a ρ (.ok (.d (.int i)))) (hb : DE X b ρ (.ok (.d (.int j)))) (hc : CMulW i j) : DE X (.BinOp a .Mult b pos) ρ (.ok (.d (.int (i * j)))) := de_op op_mulW ha hb (rd_int hc)
theorem de_divW (ha : DE X a ρ (.ok (.d (.int i)))) (hb : DE X b ρ (.ok (.d (.int j)))) (hc : CDivW i j) : DE X (.BinOp a .FloorDiv b pos) ρ (.ok (.d (.int (i / j)))) := de_op op_fdivW ha hb (rd_int hc)
theorem de_lenQ {p p2 : Pos} (ii : Nat) (hm : X.mg "len" = none) (h : ρ[ii]? = some (.q ns)) (hN : X.N[ii]? = some n := by rfl) (hv : Vis X.env.scope n := by first | exact Or.inl rfl | exact Or.inr (Or.inl rfl)) (hd : (n == ("__debug__" : Str)) = false := by decide) (hcd : (n == ("__classdict__" : Str)) = false := by decide)
    (hg : Gl X "len" := by rfl) (hs : starEach [.Name n p2] X.env = (false, eval (.Name n p2) X.env) :: starEach [] X.env := by rfl) (hpl : (backTo pos (starEach [] X.env)).any (·.1) = false := by rfl) : DE X (.Call (.Name "len" p) [.Name n p2] [] pos) ρ (.ok (.d (.int ns.length))) := fun W hW Ho Fo σ τ H Q hl E hQ => by
  obtain ⟨v, h1, h2⟩ := cells_at hl h
  obtain ⟨F, e⟩ := E
  obtain ⟨a, e1, e2⟩ := e.ok _ (List.mem_append_left _ h2)
  simp only at e1
  subst e1
  refine tE_of (pe_callB call_len_seq hg hm boot_len (pa_cons (pe_var hN hv hd hcd) pa_nil hs) (by decide) (by decide) hs hpl) ⟨.ref a, h1, a, _, rfl, .inl (e.inn.seq e2), hQ _ _ ?_⟩
  rw [List.length_map]
  exact (Env.int ⟨F, e⟩ _).unmid
theorem de_ixQ {p2 : Pos} (ii : Nat) (h : ρ[ii]? = some (.q ns)) (hb : DE X b ρ (.ok (.d (.int i)))) (hx : atI ns i = some j) (hN : X.N[ii]? = some n := by rfl) (hv : Vis X.env.scope n := by first | exact Or.inl rfl | exact Or.inr (Or.inl rfl)) (hd : (n == ("__debug__" : Str)) = false := by decide) (hcd : (n == ("__classdict__" : Str)) = false := by decide)
    (hs : PlainIx b := by exact fun _ _ => rfl) : DE X (.Subscript (.Name n p2) b pos) ρ (.ok (.d (.int j))) := fun W hW Ho Fo σ τ H Q hl E hQ => by
  obtain ⟨v, h1, h2⟩ := cells_at hl h
  have hv' : ∃ a, v = some (.ref a) := by
    obtain ⟨F, e⟩ := E
    obtain ⟨a, e1, e2⟩ := e.ok _ (List.mem_append_left _ h2)
    exact ⟨a, e1⟩
  obtain ⟨a, rfl⟩ := hv'
  refine tE_of (pe_ix ix_list (pe_var hN hv hd hcd) pe_ hs) ⟨.ref a, h1, hb W hW Ho Fo σ τ H _ hl E fun w H1 E1 => ?_⟩
  obtain ⟨w', e1, h3⟩ := E1.mid.fget List.mem_cons_self
  cases e1
  obtain ⟨F, e⟩ := E1.mid.tail
  obtain ⟨a', e1, e2⟩ := e.ok _ (List.mem_append_left _ h2)
  cases e1
  refine ⟨a, _, i, .int j, rfl, dp_int h3, e.inn.seq e2, ?_, hQ _ _ (Env.int ⟨F, e⟩ _).unmid⟩
  unfold atI at hx ⊢
  rw [List.length_map]
  cases q : ixN ns.length i with
  | none => rw [q] at hx; cases hx
  | some m =>
    rw [q] at hx
    show (ns.map V.int)[m]? = some (.int j)
    rw [List.getElem?_map, show ns[m]? = some j from hx]
    rfl
theorem de_varQ (i : Nat) (h : ρ[i]? = some (.q ns)) (hN : X.N[i]? = some n := by rfl) (hv : Vis X.env.scope n := by first | exact Or.inl rfl | exact Or.inr (Or.inl rfl) | exact Or.inr (Or.inr rfl)) (hd : (n == ("__debug__" : Str)) = false := by decide)
    (hcd : (n == ("__classdict__" : Str)) = false := by decide) : DE X (.Name n pos) ρ (.ok (.q ns)) := fun W hW Ho Fo σ τ H Q hl E hQ => by
  obtain ⟨v, h1, h2⟩ := cells_at hl h
  obtain ⟨F, e⟩ := E
  obtain ⟨a, e1, e2⟩ := e.ok _ (List.mem_append_left _ h2)
  simp only at e1
  subst e1
  exact tE_of (pe_var hN hv hd hcd) ⟨_, h1, hQ _ _ (Env.unmid ⟨F, e.consN (c := (.q ns, some (.ref a))) ⟨a, rfl, e2⟩ rfl⟩)⟩
end
end DL

namespace DL
open PySem PySem.Spec PyProof.Rows L2
structure ExC (K : PySem.W.Frag) (mg : Str → Option Value) (n : Str) (C : Addr) : Prop where
  g : mg n = some (.ref C)
  x : PySem.W.excIn K C [.type "ValueError", .type "Exception", .type "BaseException", .type "object"] "ValueError.__new__" = true
  k : PySem.W.keepIn K (.ref C) = true
  b : PySem.W.subIn K (.ref C) (.type "BaseException") = some true
  t : PySem.W.typeIn K (.ref C) = some (.type "type")
  i : PySem.W.isClsIn K C = true
section
variable {X : Cx} {ρ ρ1 ρ2 : List Sl} {st : Stmt} {sts body : List Stmt} {r : Out} {n m : Str} {pos p p2 p3 : Pos} {jj : Nat} {C : Addr}
theorem go_nx (h : DSs X body ρ (.nx ρ1)) (w : Wk ρ1 ρ2 := by (repeat (first | exact Wk.nil | refine Wk.cons (by first | exact WkS.rfl | exact WkS.u | exact WkS.f | exact WkS.o) ?_))) : Goes X body ρ ρ2 := .inl (dss_post h w)
theorem dss_to (h : DSs X body ρ (.nx ρ1)) (w : Wk ρ1 ρ2 := by (repeat (first | exact Wk.nil | refine Wk.cons (by first | exact WkS.rfl | exact WkS.u | exact WkS.f | exact WkS.o) ?_))) : DSs X body ρ (.nx ρ2) := dss_post h w
theorem ds_to (h : DS X st ρ (.nx ρ1)) (w : Wk ρ1 ρ2 := by (repeat (first | exact Wk.nil | refine Wk.cons (by first | exact WkS.rfl | exact WkS.u | exact WkS.f | exact WkS.o) ?_))) : DS X st ρ (.nx ρ2) := ds_post h w
theorem ds_err (hc : X.calm = true) (E : ExC X.K X.mg n C) (hg : Gl X n := by rfl) (hdb : (n == ("__debug__" : Str)) = false := by decide) : DS X (.Raise (some (.Call (.Name n p) [.Constant (.str m) jj p2] [] p3)) none pos) ρ (.ex (.ref C) ρ) :=
  ds_raise hc PySem.F.excBase_ValueError E.x E.g E.k (raises_own E.b E.t) hg hdb
end
end DL

namespace DL
open PySem PySem.Spec PyProof.Rows L2
section
variable {X : Cx}
def rCountF (K : PySem.W.Frag) : V → List V → Hp → VK → Prop := fun x xs H Q => ∃ (a : Addr) (ys : List V) (y : V), x = V.ref a ∧ xs = [y] ∧ SqL K H a ys ∧ flatV y = true ∧ ys.all flatV = true ∧ Q (.int (ys.countP fun z => eqV z y : Nat)) H
theorem countP_eqU {ys : List V} {us : List Value} {y : V} (r : Vals ys us) (f : ys.all flatV = true) : us.countP (eqU y) = ys.countP fun z => eqV z y := by
  induction r with
  | nil => rfl
  | cons rx rt ih =>
    rw [List.all_cons, Bool.and_eq_true] at f
    rw [List.countP_cons, List.countP_cons, ih f.2, eqU_of rx f.1]
theorem mt_countF : MtR X "list.count" (rCountF X.K) := by
  intro pins s σ H x xs v us Q I rx rxs h
  obtain ⟨a, ys, y, rfl, rfl, hs, fy, fys, q⟩ := h
  cases rx
  cases rxs with
  | cons ry rt =>
    rename_i uy ut
    cases rt
    obtain ⟨its, rv, ⟨⟨cls, dd, data, sl⟩, n, ho, hc, hdn, hd⟩, hlen⟩ := I.list hs
    simp only at hc hd
    subst hc hd
    refine call_meets PySem.F.slot_list_count ⟨_, ho, rfl⟩ PySem.F.entry_list_count (PySem.F.args_list_count_2 _ _)
      (SeqAt.list_countAt a its.toArray n dd sl uy (eqU y)) ⟨ho, fun u' hu' => mem_eqAt ry fy rv fys u' (by simpa using hu'), ?_⟩
    have ec : its.toArray.toList.countP (eqU y) = ys.countP fun z => eqV z y := countP_eqU rv fys
    refine ⟨.int (ys.countP fun z => eqV z y : Nat), H, I.tok _, ⟨s.toks, ?_⟩, q⟩
    show Value.int ((its.toArray.toList.countP (eqU y) : Nat) : Int) s.toks = _
    rw [ec]
theorem call_isP {a D : Addr} {oe : Obj} (hp : (a, oe) ∈ X.pn) (C : ExcC X.K D) (hz : Zc (.ref D) none oe) (hf : ∃ vs, oe.data = .fields vs) : CallR X (.builtin "isinstance") (rIsE X.K D a) := by
  intro pins s σ H xs us Q I r h
  obtain ⟨c, cv, b, rfl, hcv, e, q⟩ := h
  cases r with
  | cons rx rr =>
    cases rr with
    | cons rt rr =>
      cases rr
      cases rx
      have ec := hcv _ rt
      subst ec
      obtain ⟨hget, _⟩ := I.pin (a, oe) (List.mem_append_left _ hp)
      obtain ⟨vs, hv⟩ := hf
      have J : PySem.W.InstAt s.heap a oe D none := by
        obtain ⟨oc, od, oda, osl⟩ := oe
        obtain ⟨h1, h2⟩ := hz
        dsimp only at h1 h2 hv
        subst h1 h2 hv
        exact ⟨hget, rfl, rfl, trivial⟩
      exact PySem.W.kia_one (PySem.W.handS_kitx_exc C.hg C.hk C.hs C.hd C.ha C.hn C.ht C.hm) I.kIn J e (fun z => nomatch z) fun tk => ⟨.bl b, H, I.kept (t' := tk) fun _ _ z => z, rfl, q⟩
end
structure WhC (K : PySem.W.Frag) (D : Addr) (C0 C1 C2 C3 C4 C5 C6 : Addr) (j : Nat) : Prop where
  ec : ExcC K D
  k0 : PySem.W.kitOne K (.ref D) (.ref C0) = some (decide (j = 0))
  k1 : PySem.W.kitOne K (.ref D) (.ref C1) = some (decide (j = 1))
  k2 : PySem.W.kitOne K (.ref D) (.ref C2) = some (decide (j = 2))
  k3 : PySem.W.kitOne K (.ref D) (.ref C3) = some (decide (j = 3))
  k4 : PySem.W.kitOne K (.ref D) (.ref C4) = some (decide (j = 4))
  k5 : PySem.W.kitOne K (.ref D) (.ref C5) = some (decide (j = 5))
  k6 : PySem.W.kitOne K (.ref D) (.ref C6) = some (decide (j = 6))
  kv : PySem.W.kitOne K (.ref D) (.type "ValueError") = some true

open L2H in
structure FnP (P : Program) (w : World) (K : PySem.W.Frag) (mg : Str → Option Value) (base : Heap) (k : Nat) (f : Addr) (fd : FuncData) (ps : List Str) (sp : Addr × Obj → Sp) : Prop where
  len : ∀ p vs H Q E, sp p vs H Q E → vs.length = ps.length
  run : ∀ (A : Around) (outer : List PySem.Env) (s : Shared) (H : Hp) (args : Args) (us : List Value) (vs : List V) (Q : VK) (E : XK) (p : Addr × Obj), RoomH k A → Hot1 A p → PinOk outer H s p → Env0 P w K mg base A outer s H → BindsTo s fd args (ps.zip us) → Vals vs us → sp p vs H Q E →
    codeAny (model P w) A (.call (.ref f) args) (CR (L2N.CX P w) outer P w H s Q E) s
open L2H in
theorem fn_ofP {P : Program} {w : World} {K : PySem.W.Frag} {mg : Str → Option Value} {base : Heap} {k : Nat} {f : Addr} {name qual : Str} {params : Arguments} {body : List Stmt} {scope : Scope} {dV kV doc pm cdv ct oc : Value} {an od : Option Addr}
    {osl : Array (Option Value)} {N ps : List Str} {sp : Addr × Obj → Sp} (lk : K.lookup f = some ⟨oc, od, .func (PySem.W.fnOf name qual params body scope dV kV doc pm an cdv ct), osl⟩) (hcd : PySem.W.codeIn K cdv qual = true) (S : FnScope N ps scope)
    (len : ∀ p vs H Q E, sp p vs H Q E → vs.length = ps.length)
    (hbody : ∀ (A : Around) (outer : List PySem.Env) (s : Shared) (H : Hp) (vs : List V) (Q : VK) (E : XK) (p : Addr × Obj), Hot1 A p → RoomH k (A.deeper (envOfC qual scope s.heap.objs.size f cdv)) → sp p vs H Q E →
      ∃ t, PSs (cxH (L2N.CX P w) P w K mg base N qual scope f cdv A outer s H E p) body t ∧ t { nx := fun _ H' => Q .non H', rt := Q } (L2.start N vs) H) :
    FnP P w K mg base (k + 1) f (PySem.W.fnOf name qual params body scope dV kV doc pm an cdv ct) ps sp := by
  refine ⟨len, fun A outer s H args us vs Q E p hr hot hpin e0 hb r hsp => ?_⟩
  have hl := len _ _ _ _ _ hsp
  have KX : K.In s.heap := e0.mod.kin.keeps fun b o e => (e0.bs b o e).1
  have lim : s.heap.NoLimit := e0.mod.nolimit.keeps fun b o e => (e0.bs b o e).1
  have hkind : ∀ y ∈ ps.zip us, scope.names.lookup y.1 = some .local ∨ (scope.names.lookup y.1 = some .cell ∧ ((cellsFrom (s.heap.objs.size + 1) scope.names []).lookup y.1).isSome = true) := fun ⟨n, v⟩ hy => by
    rcases S.par n (List.of_mem_zip hy).1 with q | q
    · exact .inl q
    · exact .inr ⟨q, PySem.W.cellsFrom_some _ _ _ (.inl q)⟩
  refine codeAny_call_function hr.depth (KX _ _ lk) rfl S.co S.gen rfl (PySem.W.codeRec_of KX hcd) (hb _ _ _ _ ?_)
  refine wpAny_newFunctionEnv_cells S.kind hkind fun env he s1 x => ?_
  subst he
  refine ⟨lim.keeps x.toInCall.keep, codeAny_func ?_⟩
  obtain ⟨t, ht, hq⟩ := hbody A outer s H vs Q E p hot (hr.deeper _) hsp
  have I : Inv (cxH (L2N.CX P w) P w K mg base N qual scope f cdv A outer s H E p) [] (L2.start N vs) H s1 := inv_startH S hpin e0 hl r x
  refine wpAny_mono (ht.run [] s1 (L2.start N vs) H _ I hq) (fun fl s' hs => ?_) fun e s' hs => hs
  have fin : ∀ {σ' : St} {H' : Hp} {v : V} {u : Value}, Inv (cxH (L2N.CX P w) P w K mg base N qual scope f cdv A outer s H E p) [] σ' H' s' → RelV v u → Q v H' → CE outer P w H s Q u s' :=
    fun {σ' H' v u} J rv q => ⟨v, H', J.os, J.bare, J.base, J.hok, rv, q⟩
  cases fl with
  | ret u =>
    obtain ⟨v, σ', H', J, rv, q⟩ := hs
    exact fin J rv q
  | next =>
    obtain ⟨σ', H', J, q⟩ := hs
    exact fin (v := V.non) (u := Value.none) J rfl q
  | brk =>
    obtain ⟨_, _, _, q⟩ := hs
    exact False.elim q
  | cont =>
    obtain ⟨_, _, _, q⟩ := hs
    exact False.elim q
def spW (D : Addr) (j : Nat) (p : Addr × Obj) : Sp := fun vs H Q _ => vs = [.ref p.1] ∧ Zc (.ref D) none p.2 ∧ (∃ vs, p.2.data = .fields vs) ∧ ∀ H', Same H H' → Q (.int j) H'
def CalW (P : Program) (w : World) (K : Frag) (mg : Str → Option Value) (base : Heap) (n : Str) (k : Nat) (D : Addr) (j : Nat) : Prop :=
  ∃ f fd, mg n = some (.ref f) ∧ PySem.W.keepIn K (.ref f) = true ∧ Binds K fd ["e"] [] ∧ FnP P w K mg base k f fd ["e"] (spW D j)
section
variable {X : Cx} {ρ ρ1 : List Sl} {body : List Stmt} {r : Out}
theorem tryX (X : Cx) (pn : List (Addr × Obj)) (xe : Value → Shared → Prop) : (X.tr pn xe).K = X.K := rfl
open L2H in
theorem ds_tryX {x n m fn : Str} {iw ie lv j : Nat} {CT D : Addr} {np pw pc pe pcc pas ph pos : Pos} (hs : X.stack = X.env :: X.outer) (hf : X.env.frame = some X.env.locals) (hr : Room lv X.A) (hgT : X.mg x = some (.ref CT)) (hx : PySem.W.exmOne X.K (.ref D) (.ref CT) = some true) (C : CalW X.prog X.w X.K X.mg X.base fn lv D j)
    (hb : ∀ pn xe, DSs (X.tr pn xe) body ρ (.ex (.ref D) ρ1)) (hie : ie < ρ1.length) (hiw : iw < ρ1.length) (hgl : Gl X x := by rfl) (hdb : (x == ("__debug__" : Str)) = false := by decide)
    (hN : X.N[ie]? = some n := by rfl) (hln : X.env.kindOf n = some .local := by rfl) (hNw : X.N[iw]? = some m := by rfl) (hlw : X.env.scope.names.lookup m = some .local := by rfl) (hgf : Gl X fn := by rfl) (hdf : (fn == ("__debug__" : Str)) = false := by decide)
    (hdn : (n == ("__debug__" : Str)) = false := by decide) (hcn : (n == ("__classdict__" : Str)) = false := by decide) (hsw : ∀ (a : Addr) (pn : List (Addr × Obj)), swapsWith (.Call (.Name fn pc) [.Name n pe] [] pcc) (some (.Name m pw)) pas.line (X.suite a pn).env = pure false := by intro _ _; rfl)
    (hse : starEach (Expr.Name n pe :: []) X.env = (false, eval (.Name n pe) X.env) :: starEach [] X.env := by rfl) (hpl : (backTo pcc (starEach [] X.env)).any (·.1) = false := by rfl) :
    DS X (.Try body [.ExceptHandler (some (.Name x np)) (some n) [.Assign [.Name m pw] (.Call (.Name fn pc) [.Name n pe] [] pcc) pas] ph] [] [] pos) ρ (.nx (((ρ1.set ie .u).set iw (.d (.int j))).set ie .u)) := fun W hW Ho Fo σ τ H Dn hl E hQ => by
  obtain ⟨f, fd, hm, hkp, hbi, F⟩ := C
  refine tS_of (L2N.ps_try_as (tb := fun W' D σ H => ∀ pn xe, L2N.Takes (X.tr pn xe) W' → PassesOwn (model X.prog X.w) X.A X.env xe → tSs (X.tr pn xe) body D σ H)
    (ts := fun a cls d D σ H => ∀ oe pn, L2N.Zn cls d oe → (∃ vs, oe.data = .fields vs) → tSs (X.suite a ((a, oe) :: pn)) [.Assign [.Name m pw] (.Call (.Name fn pc) [.Name n pe] [] pcc) pas] D σ H) hs hf hW.2.2 hN hln ⟨hgl, hdb, .inl hgT⟩ hW.1
    (fun W' pn xe tk po => ⟨fun pins s σ H D I h => h pn xe tk po pins s I⟩) (fun a oe cls d pn hz hv => ⟨fun pins s σ H D I h => h oe pn hz hv pins s I⟩)) ?_
  intro pn xe tk po
  refine hb pn xe _ ⟨tk, po, hW.2.2⟩ Ho Fo σ τ H _ hl E fun σ' H' hl' E' => ⟨true, hx, fun _ a na => ?_, fun q => nomatch q⟩
  intro oe pn2 hz hv
  have vis : Vis (X.suite a ((a, oe) :: pn2)).env.scope n := Or.inl hln
  have hot : Hot1 (X.suite a ((a, oe) :: pn2)).A (a, oe) := by
    obtain ⟨vs, hv⟩ := hv
    exact ⟨rfl, vs, hv, hz.2.2 vs hv⟩
  have call : PE (X.suite a ((a, oe) :: pn2)) (.Call (.Name fn pc) [.Name n pe] [] pcc) (tCallS (spW D j (a, oe)) (fun _ => E0) (tCons (tVar ie) tNil)) := by
    refine ⟨fun pins s σ H Q I h => ?_⟩
    refine wpAny_Call_Name_kw (ld_glob I hgf hm ?_ hdf)
    refine PySem.W.callWith_K (h₀ := X.base) I.ok.mod.kin hkp (thn ((pa_cons (X := X.suite a ((a, oe) :: pn2)) (pe_var (X := X.suite a ((a, oe) :: pn2)) hN vis hdn hcn) pa_nil hse).run pcc pins s σ H _ I h) fun us s1 ⟨vs, H1, I1, r, q⟩ => ⟨I1.kIn, ?_⟩) hse hpl
    have hl0 : us.length = 1 := by rw [← r.length]; exact F.len _ _ _ _ _ q
    have b := hbi s1 us I1.kIn (by rw [List.append_nil]; exact hl0)
    rw [List.append_nil] at b
    have P1 := I1.pin (a, oe) (List.mem_append_left _ List.mem_cons_self)
    have hpin : PinOk (X.suite a ((a, oe) :: pn2)).stack H1 s1 (a, oe) := ⟨P1.1, P1.2.1, fun hm => (List.mem_cons.mp (I1.stkSub a hm)).elim P1.2.2.1 P1.2.2.2.1, P1.2.2.2.2⟩
    have hrm : RoomH lv (X.suite a ((a, oe) :: pn2)).A := ⟨hr.dp, hr.un⟩
    refine wpAny_call (codeAny_mono (F.run (X.suite a ((a, oe) :: pn2)).A (X.suite a ((a, oe) :: pn2)).stack s1 H1 ⟨us, []⟩ us vs Q E0 (a, oe) hrm hot hpin I1.env0 b r q) fun r s' hq => ?_)
    cases r with
    | error e =>
      obtain ⟨_, _, _, _, _, _, _, _, _, _, _, _, z⟩ := hq
      exact z.elim
    | ok fl =>
      cases fl with
      | ret u => exact I1.after hq
      | next => exact False.elim hq
      | brk => exact False.elim hq
      | cont => exact False.elim hq
  refine tSs_of (pss_one (ps_set (i := iw) hW.2.2 hNw (Or.inl hlw) call (hsw a _) (Or.inr hlw))) ?_
  have hie' : ie < σ'.length := by rw [hl']; exact hie
  refine ⟨.ref a, List.getElem?_set_self hie', rfl, hz.zc, hv, fun H'' sm => hQ _ _ (by simp [hl']) ?_⟩
  obtain ⟨Fp, e⟩ := E'
  have e1 : Env X.K Ho Fo (cells ρ1 σ' ++ τ) H'' := ⟨Fp, e.step sm (Same.refl _) (e.inn.trans sm) fun b o q => .inl q⟩
  have push : ∀ {s : Sl} {v : Option V} {i : Nat} {ρ : List Sl} {σ : St}, (Env X.K Ho Fo (cells ρ σ ++ τ) H'' → Env X.K Ho Fo ((s, v) :: (cells ρ σ ++ τ)) H'') → Env X.K Ho Fo (cells ρ σ ++ τ) H'' → σ.length = ρ.length → i < ρ.length → Env X.K Ho Fo (cells (ρ.set i s) (σ.set i v) ++ τ) H'' := fun h E hl hi => (h E).push hl hi
  have un : ∀ {v : Option V} {L : List Cell}, Env X.K Ho Fo L H'' → Env X.K Ho Fo ((.u, v) :: L) H'' := fun E => let ⟨F, e⟩ := E; ⟨F, e.consN trivial rfl⟩
  have e2 := push (s := .u) (v := some (.ref a)) (i := ie) un e1 hl' hie
  have e3 := push (s := .d (.int j)) (v := some (.int j)) (i := iw) (fun E => E.int _) e2 (by simp [hl']) (by simpa using hiw)
  exact push (s := .u) (v := none) (i := ie) un e3 (by simp [hl']) (by simpa using hie)
theorem ds_tryN {x n : Str} {np ph pos : Pos} {ie : Nat} {CT : Addr} {suite : List Stmt} {b0 : Stmt} (hs : X.stack = X.env :: X.outer) (hf : X.env.frame = some X.env.locals) (hgT : X.mg x = some (.ref CT)) (hb : ∀ pn xe, DSs (X.tr pn xe) body ρ r) (hne : ∀ c ρ', r ≠ .ex c ρ') (hgl : Gl X x := by rfl) (hdb : (x == ("__debug__" : Str)) = false := by decide)
    (hN : X.N[ie]? = some n := by rfl) (hln : X.env.kindOf n = some .local := by rfl)
    (hsu : ∀ (a : Addr) (oe : Obj) (pn : List (Addr × Obj)), PSs (X.suite a ((a, oe) :: pn)) (b0 :: suite) tNever := by exact fun _ _ _ => pss_never) :
    DS X (.Try body [.ExceptHandler (some (.Name x np)) (some n) (b0 :: suite) ph] [] [] pos) ρ r := fun W hW Ho Fo σ τ H Dn hl E hQ => by
  refine tS_of (L2N.ps_try_as (i := ie) (tb := fun W' D σ H => ∀ pn xe, L2N.Takes (X.tr pn xe) W' → PassesOwn (model X.prog X.w) X.A X.env xe → tSs (X.tr pn xe) body D σ H)
    (ts := fun a cls d => tNever) hs hf hW.2.2 hN hln ⟨hgl, hdb, .inl hgT⟩ hW.1
    (fun W' pn xe tk po => ⟨fun pins s σ H D I h => h pn xe tk po pins s I⟩) (fun a oe cls d pn hz hv => hsu a oe pn)) ?_
  intro pn xe tk po
  refine hb pn xe _ ⟨tk, po, hW.2.2⟩ Ho Fo σ τ H _ hl E ?_
  cases r with
  | nx _ => exact hQ
  | rt _ => exact hQ
  | bk _ => exact hQ
  | ct _ => exact hQ
  | ex c ρ' => exact absurd rfl (hne c ρ')
end
end DL

namespace DL
open PySem PySem.Spec PyProof.Rows L2
section
variable {X : Cx} {a b c e f : Expr} {es : List Expr} {ρ ρ' ρ1 : List Sl} {pos apos p p2 p3 : Pos} {x y z : PyData} {k k1 k2 : Sl} {n m : Str} {i j : Int} {xs ys : List PyData} {ns : List Int} {st : Stmt} {sts body rest : List Stmt} {r : Out}
theorem dss_ife {q : Bool} (hc : DT X c ρ (.ok q)) (h1 : q = true → DSs X sts ρ r) (h2 : q = false → DSs X rest ρ r) (he : Ends_ r := by trivial) : DSs X (.If c sts [] pos :: rest) ρ r := by
  cases q with
  | true => exact dss_end (ds_if hc (fun _ => h1 rfl) (fun z => nomatch z)) he
  | false => exact dss_cons (ds_if hc (fun z => nomatch z) (fun _ => dss_nil)) (h2 rfl)
theorem dss_ifF (hc : DT X c ρ (.ok false)) (h2 : DSs X rest ρ r) : DSs X (.If c sts [] pos :: rest) ρ r := dss_cons (ds_if hc (fun z => nomatch z) (fun _ => dss_nil)) h2
theorem dss_ifT (hc : DT X c ρ (.ok true)) (h1 : DSs X sts ρ r) (he : Ends_ r := by trivial) : DSs X (.If c sts [] pos :: rest) ρ r := dss_end (ds_if hc (fun _ => h1) (fun z => nomatch z)) he
theorem ds_retD (h : DE X e ρ (.ok (.d x))) (q : x = y) : DS X (.Return (some e) pos) ρ (.rt (.d y)) := q ▸ ds_ret h
theorem ds_retO' (h : DE X e ρ (.ok (.o xs))) (q : xs = ys) : DS X (.Return (some e) pos) ρ (.rt (.o ys)) := q ▸ ds_ret h
theorem ds_pass : DS X (.Pass pos) ρ (.nx ρ) := fun W hW Ho Fo σ τ H D hl E hQ => tS_of ps_pass (hQ _ _ hl E)
theorem pg_two {N : List Str} {ii jj : Nat} {kk : Nat} (hN : X.N.Nodup) (hc : X.calm = true) (hi : X.N[ii]? = some n := by rfl) (hj : X.N[jj]? = some m := by rfl) (hx : Loc X.env.scope n := by exact Or.inl rfl) (hy : Loc X.env.scope m := by exact Or.inl rfl)
    (f1 : X.fn n = true ∨ X.env.scope.names.lookup n = some .local := by exact .inr rfl) (f2 : X.fn m = true ∨ X.env.scope.names.lookup m = some .local := by exact .inr rfl)
    (hs : (assignEach [.Name n p, .Name m p2] X.env).length = 2 := by rfl) (hst : (assignEach [.Name n p, .Name m p2] X.env).findIdx? (·.1) = none := by rfl) : PG X (.Tuple [.Name n p, .Name m p2] kk pos) (gTup X.K 2 (gCons (gName ii) (gCons (gName jj) gNil))) :=
  pg_tup hc (pgs_cons (pg_name hN hi hx f1) (pgs_cons (pg_name hN hj hy f2) pgs_nil)) hs hst
theorem ds_tup2 {kk : Nat} {pt : Pos} (ii jj : Nat) (hc : X.calm = true) (h : DE X e ρ (.ok (.d (.tuple [x, y])))) (h1 : ii < ρ.length := by (simp; done)) (h2 : jj < ρ.length := by (simp; done)) (hi : X.N[ii]? = some n := by rfl) (hj : X.N[jj]? = some m := by rfl) (hx : Loc X.env.scope n := by exact Or.inl rfl) (hy : Loc X.env.scope m := by exact Or.inl rfl)
    (f1 : X.fn n = true ∨ X.env.scope.names.lookup n = some .local := by exact .inr rfl) (f2 : X.fn m = true ∨ X.env.scope.names.lookup m = some .local := by exact .inr rfl)
    (hs : (assignEach [.Name n p, .Name m p2] X.env).length = 2 := by rfl) (hst : (assignEach [.Name n p, .Name m p2] X.env).findIdx? (·.1) = none := by rfl)
    (hsw : swapsWithSole [.Tuple [.Name n p, .Name m p2] kk pt] e pos.line X.env = pure false := by rfl) (hw : swappedStores [.Tuple [.Name n p, .Name m p2] kk pt] e X.env = pure none := by rfl) :
    DS X (.Assign [.Tuple [.Name n p, .Name m p2] kk pt] e pos) ρ (.nx ((ρ.set ii (.d x)).set jj (.d y))) := fun W hW Ho Fo σ τ H D hl E hQ =>
  tS_of (ps_asg pe_ (pg_tup hc (pgs_cons (pg_name hW.2.2 hi hx f1) (pgs_cons (pg_name hW.2.2 hj hy f2) pgs_nil)) hs hst) hsw hw) (h W hW Ho Fo σ τ H _ hl E fun v H' E' => tgo_two h1 h2 Ho Fo σ τ H' v _ hl E' fun σ' H'' hl' E'' => hQ _ _ hl' E'')
def isNon : PyData → Bool
  | .none => true
  | _ => false
theorem rd_isN {K : Frag} (q : Bool) (hq : isNon x = q) : RD K (fun x y H Q => y = V.non ∧ Q (.bl (decide (x = .non))) H) (.d x) (.d .none) (.d (.bool q)) := fun Ho Fo L v w H Q E hQ => by
  obtain ⟨v', e1, h1⟩ := E.fget List.mem_cons_self
  obtain ⟨w', e2, h2⟩ := E.fget (List.mem_cons_of_mem _ List.mem_cons_self)
  cases e1; cases e2
  refine ⟨dp_non h2, ?_⟩
  have : decide (v = V.non) = q := by
    subst hq
    cases h1 <;> rfl
  rw [this]
  exact hQ _ _ (E.tail.tail.bl _)
theorem dt_isN {q : Bool} {jj : Nat} (ha : DE X a ρ (.ok (.d x))) (hq : isNon x = q := by rfl) : DT X (.Compare a [.Is] [.Constant .none jj p] pos) ρ (.ok q) := dt_two op_isN ha de_non (nomark _) (rd_isN q hq)
theorem de_isN {q : Bool} {jj : Nat} (ha : DE X a ρ (.ok (.d x))) (hq : isNon x = q := by rfl) : DE X (.Compare a [.Is] [.Constant .none jj p] pos) ρ (.ok (.d (.bool q))) := de_cmp op_isN ha de_non (nomark _) (rd_isN q hq)
theorem eqv_ints : ∀ (a b : List Int), PyData.eqvAll (LI a) (LI b) = decide (a = b)
  | [], [] => by simp [PyData.eqvAll]
  | [], _ :: _ => by simp [PyData.eqvAll]
  | _ :: _, [] => by simp [PyData.eqvAll]
  | x :: a, y :: b => by
    show PyData.eqvAll (.int x :: LI a) (.int y :: LI b) = _
    rw [PyData.eqvAll, eqv_ints a b, PyData.eqv]
    by_cases h : x = y
    · subst h; simp
    · simp [h]
theorem eqvL (a b : List Int) : PyData.eqv (.list (LI a)) (.list (LI b)) = decide (a = b) := by rw [PyData.eqv, eqv_ints]
theorem lay_ints : ∀ (a : List Int), PyData.canLayAll0 (LI a) = true
  | [] => by simp [PyData.canLayAll0]
  | x :: a => by
    show PyData.canLayAll0 (.int x :: LI a) = true
    rw [PyData.canLayAll0, lay_ints a]; rfl
theorem dep_ints : ∀ (a : List Int), PyData.depthAll (LI a) ≤ 1
  | [] => by simp [PyData.depthAll]
  | x :: a => by
    show PyData.depthAll (.int x :: LI a) ≤ 1
    have := dep_ints a
    rw [PyData.depthAll, PyData.depth]
    omega
theorem shL (a : List Int) : SeqAt.shaped (.list (LI a)) = true := by
  have h1 := lay_ints a
  have h2 := dep_ints a
  unfold SeqAt.shaped
  rw [PyData.canLay0, PyData.depth, h1]
  simp
  omega
theorem dt_eqL (hu : X.A.units + 64 < cLine) {as bs : List Int} (ha : DE X a ρ (.ok (.d (.list (LI as))))) (hb : DE X b ρ (.ok (.d (.list (LI bs))))) : DT X (.Compare a [.Eq] [b] pos) ρ (.ok (decide (as = bs))) := dt_is (dt_eqD hu ha hb (shL _) (shL _)) (eqvL _ _)
theorem dt_neL (hu : X.A.units + 64 < cLine) {as bs : List Int} (ha : DE X a ρ (.ok (.d (.list (LI as))))) (hb : DE X b ρ (.ok (.d (.list (LI bs))))) : DT X (.Compare a [.NotEq] [b] pos) ρ (.ok (!decide (as = bs))) := dt_is (dt_neD hu ha hb (shL _) (shL _)) (by rw [eqvL])
theorem de_eqL (hu : X.A.units + 64 < cLine) {as bs : List Int} (ha : DE X a ρ (.ok (.d (.list (LI as))))) (hb : DE X b ρ (.ok (.d (.list (LI bs))))) : DE X (.Compare a [.Eq] [b] pos) ρ (.ok (.d (.bool (decide (as = bs))))) := de_is (de_eqD hu ha hb (shL _) (shL _)) (by rw [eqvL])
end
end DL

namespace DL
open PySem PySem.Spec PyProof.Rows L2
theorem wk_setu : ∀ {ρ : List Sl} {j : Nat} {s : Sl}, ρ[j]? = some .u → Wk (ρ.set j s) ρ
  | [], _, _, h => by simp at h
  | a :: ρ, 0, s, h => by
    simp at h
    subst h
    exact .cons .u (Wk.refl _)
  | a :: ρ, j + 1, s, h => .cons .rfl (wk_setu (j := j) (by simpa using h))
def filI (p : Int → Bool) (x : PyData) : Option PyData := match x with
  | .int c => if p c = true then some (.int c) else none
  | _ => none
theorem filI_eq (p : Int → Bool) : ∀ ns : List Int, (LI ns).filterMap (filI p) = LI (ns.filter p)
  | [] => rfl
  | n :: ns => by
    show (PyData.int n :: LI ns).filterMap (filI p) = _
    cases h : p n with
    | true => rw [List.filterMap_cons_some (b := PyData.int n) (by show (if p n = true then _ else _) = _; rw [if_pos h]), List.filter_cons_of_pos h, filI_eq p ns]; rfl
    | false => rw [List.filterMap_cons_none (by show (if p n = true then _ else _) = _; rw [if_neg (by rw [h]; exact Bool.false_ne_true)]), List.filter_cons_of_neg (by rw [h]; exact Bool.false_ne_true), filI_eq p ns]
def mapI (f : Int → PyData) (x : PyData) : Option PyData := match x with
  | .int c => some (f c)
  | _ => none
theorem mapI_eq (f : Int → PyData) : ∀ ns : List Int, (LI ns).filterMap (mapI f) = ns.map f
  | [] => rfl
  | n :: ns => by
    show (PyData.int n :: LI ns).filterMap (mapI f) = _
    rw [List.filterMap_cons_some (f := mapI f) (b := f n) rfl, mapI_eq f ns]; rfl
theorem map_some {α β : Type} (f : α → β) : ∀ xs : List α, xs.filterMap (fun x => some (f x)) = xs.map f
  | [] => rfl
  | x :: xs => by rw [List.filterMap_cons_some (f := fun x => some (f x)) (b := f x) rfl, map_some f xs]; rfl
theorem erase_map {α β : Type} (f : α → β) : ∀ (xs : List α) (k : Nat), (xs.map f).eraseIdx k = (xs.eraseIdx k).map f
  | [], _ => rfl
  | _ :: _, 0 => rfl
  | x :: xs, k + 1 => congrArg (f x :: ·) (erase_map f xs k)
section
variable {X : Cx} {a b c e f elt tg iter : Expr} {es ifs : List Expr} {ρ ρ' ρ1 ρ2 : List Sl} {pos apos p p2 p3 : Pos} {x y z : PyData} {k k1 k2 : Sl} {n m v : Str} {i j : Int} {xs ys : List PyData} {ns : List Int} {st : Stmt} {sts body rest : List Stmt} {r : Out} {scope : Scope}
theorem wk_set {s s' : Sl} (h : WkS s s') : ∀ (ρ : List Sl) (i : Nat), Wk (ρ.set i s) (ρ.set i s')
  | [], _ => .nil
  | _ :: ρ, 0 => .cons h (Wk.refl _)
  | _ :: ρ, i + 1 => .cons .rfl (wk_set h ρ i)
theorem ds_frzI {i : Nat} (h : DS X st ρ (.nx (ρ.set i (.o xs)))) : DS X st ρ (.nx (ρ.set i (.d (.list xs)))) := ds_post h (wk_set .o _ _)
theorem wk_at {s s' : Sl} (w : WkS s s') : ∀ {ρ : List Sl} {i : Nat}, ρ[i]? = some s → Wk ρ (ρ.set i s')
  | [], _, _ => .nil
  | a :: ρ, 0, h => by
    simp at h
    subst h
    exact .cons w (Wk.refl _)
  | a :: ρ, i + 1, h => .cons .rfl (wk_at w (i := i) (by simpa using h))
theorem dss_frz (i : Nat) (h : ρ[i]? = some (.o xs)) (q : DSs X sts (ρ.set i (.d (.list xs))) r) : DSs X sts ρ r := dss_pre (wk_at .o h) q
theorem ds_is (h : DS X st ρ (.nx ρ1)) (q : ρ1 = ρ2) : DS X st ρ (.nx ρ2) := q ▸ h
theorem de_fil {q : Int → Bool} {ms : List Int} (hms : ns.filter q = ms) (v : Str) (jj : Nat) (hc : X.calm = true) (hi : DE X iter ρ (.ok (.d (.list (LI ns))))) (ok : BlkOk X.N X.env.scope scope [(v, jj)]) (hg : ∀ (s : Shared) (H : Hp) (C : Addr) (cl : List (Str × Addr)) (fp : List Addr), PG (X.blk s H scope (compEnvC scope cl C X.env) fp) tg (gName jj))
    (hu : ρ[jj]? = some Sl.u) (hz : ns.length ≤ 100000) (hif : ∀ x ∈ ns, ∀ X', Bk X scope X' → DT X' c (ρ.set jj (.d (.int x))) (.ok (q x))) (he : ∀ x ∈ ns, q x = true → ∀ X', Bk X scope X' → DE X' elt (ρ.set jj (.d (.int x))) (.ok (.d (.int x))))
    (hs : ∀ x, foldedSetIterable iter X.env x = pure x := by intro _; rfl) : DE X (.ListComp elt [⟨tg, iter, [c], 0⟩] scope pos) ρ (.ok (.o (LI ms))) := by
  subst hms
  have hlt : jj < ρ.length := (List.getElem?_eq_some_iff.mp hu).1
  rw [← filI_eq]
  refine de_lc (F := filI q) [(v, jj)] (fun x => ρ.set jj (.d x)) hc hi ok hg (by simpa using hu) (by simpa using hz) (fun x hx => tgw_name hlt) (fun x hx => wk_setu hu) (fun x hx X' hX => ?_) (fun x hx y hy X' hX => ?_) (Nat.le_refl 1) hs
  · obtain ⟨c', hm, rfl⟩ := List.mem_map.mp hx
    have := hif c' hm X' hX
    show DT X' c (ρ.set jj (.d (.int c'))) (.ok (if q c' = true then some (PyData.int c') else none).isSome)
    cases h : q c' with
    | true => rw [if_pos rfl]; rw [h] at this; exact this
    | false => rw [if_neg Bool.false_ne_true]; rw [h] at this; exact this
  · obtain ⟨c', hm, rfl⟩ := List.mem_map.mp hx
    have hy' : (if q c' = true then some (PyData.int c') else none) = some y := hy
    by_cases h : q c' = true
    · rw [if_pos h] at hy'
      cases hy'
      exact he c' hm h X' hX
    · rw [if_neg h] at hy'; cases hy'
theorem ds_setFil {q : Int → Bool} {py : Pos} {ms : List Int} (hms : ns.filter q = ms) (i : Nat) (v : Str) (jj : Nat) (hc : X.calm = true) (hi : DE X iter ρ (.ok (.d (.list (LI ns))))) (ok : BlkOk X.N X.env.scope scope [(v, jj)]) (hg : ∀ (s : Shared) (H : Hp) (C : Addr) (cl : List (Str × Addr)) (fp : List Addr), PG (X.blk s H scope (compEnvC scope cl C X.env) fp) tg (gName jj))
    (hu : ρ[jj]? = some Sl.u) (hz : ns.length ≤ 100000) (hif : ∀ x ∈ ns, ∀ X', Bk X scope X' → DT X' c (ρ.set jj (.d (.int x))) (.ok (q x))) (he : ∀ x ∈ ns, q x = true → ∀ X', Bk X scope X' → DE X' elt (ρ.set jj (.d (.int x))) (.ok (.d (.int x))))
    (hlt : i < ρ.length := by (first | exact (by decide) | (simp; done))) (hy : X.N[i]? = some n := by rfl) (hyl : X.env.scope.names.lookup n = some .local := by rfl) (hsw : swapsWith (.ListComp elt [⟨tg, iter, [c], 0⟩] scope apos) (some (.Name n py)) pos.line X.env = pure true := by exact sw_true rfl rfl rfl (by decide +kernel))
    (hs : ∀ x, foldedSetIterable iter X.env x = pure x := by intro _; rfl) : DS X (.Assign [.Name n py] (.ListComp elt [⟨tg, iter, [c], 0⟩] scope apos) pos) ρ (.nx (ρ.set i (.o (LI ms)))) := by
  subst hms
  have hjt : jj < ρ.length := (List.getElem?_eq_some_iff.mp hu).1
  rw [← filI_eq]
  refine ds_setLc (F := filI q) [(v, jj)] i (fun x => ρ.set jj (.d x)) hc hi ok hg (by simpa using hu) (by simpa using hz) (fun x hx => tgw_name hjt) (fun x hx => wk_setu hu) (fun x hx X' hX => ?_) (fun x hx y hy X' hX => ?_) hlt hy hyl hsw (Nat.le_refl 1) hs
  · obtain ⟨c', hm, rfl⟩ := List.mem_map.mp hx
    have := hif c' hm X' hX
    show DT X' c (ρ.set jj (.d (.int c'))) (.ok (if q c' = true then some (PyData.int c') else none).isSome)
    cases h : q c' with
    | true => rw [if_pos rfl]; rw [h] at this; exact this
    | false => rw [if_neg Bool.false_ne_true]; rw [h] at this; exact this
  · obtain ⟨c', hm, rfl⟩ := List.mem_map.mp hx
    have hy' : (if q c' = true then some (PyData.int c') else none) = some y := hy
    by_cases h : q c' = true
    · rw [if_pos h] at hy'
      cases hy'
      exact he c' hm h X' hX
    · rw [if_neg h] at hy'; cases hy'
theorem de_map {g : PyData → PyData} (v : Str) (jj : Nat) (hc : X.calm = true) (hi : DE X iter ρ (.ok (.d (.list xs)))) (ok : BlkOk X.N X.env.scope scope [(v, jj)]) (hg : ∀ (s : Shared) (H : Hp) (C : Addr) (cl : List (Str × Addr)) (fp : List Addr), PG (X.blk s H scope (compEnvC scope cl C X.env) fp) tg (gName jj))
    (hu : ρ[jj]? = some Sl.u) (hz : xs.length ≤ 100000) (he : ∀ x ∈ xs, ∀ X', Bk X scope X' → DE X' elt (ρ.set jj (.d x)) (.ok (.d (g x))))
    (hs : ∀ x, foldedSetIterable iter X.env x = pure x := by intro _; rfl) : DE X (.ListComp elt [⟨tg, iter, [], 0⟩] scope pos) ρ (.ok (.o (xs.map g))) := by
  have hlt : jj < ρ.length := (List.getElem?_eq_some_iff.mp hu).1
  rw [← map_some]
  exact de_lc (F := fun x => some (g x)) [(v, jj)] (fun x => ρ.set jj (.d x)) hc hi ok hg (by simpa using hu) hz (fun x hx => tgw_name hlt) (fun x hx => wk_setu hu) (fun x hx X' hX => (rfl : (some (g x)).isSome = true)) (fun x hx y hy X' hX => by cases hy; exact he x hx X' hX) (by decide) hs
end
section
variable {X : Cx} {a b c e f : Expr} {es : List Expr} {ρ ρ' ρ'' ρ1 ρ2 : List Sl} {pos apos cpos pn : Pos} {x y z : PyData} {k k1 k2 : Sl} {n : Str} {i j : Int} {st : Stmt} {sts sts' rest : List Stmt} {r : Out} {ii jj : Nat} {ns ms : List Int}
theorem ds_appI (ii : Nat) (h : ρ[ii]? = some (.o (LI ns))) (he : DE X e ρ (.ok (.d (.int j)))) (hz : ns.length < 100000) (hN : X.N[ii]? = some n := by rfl) (hv : Vis X.env.scope n := by first | exact Or.inl rfl | exact Or.inr (Or.inl rfl)) (hd : (n == ("__debug__" : Str)) = false := by decide)
    (hcd : (n == ("__classdict__" : Str)) = false := by decide) (hbase : attributeBase (.Name n pn) "append" X.env (eval (.Name n pn) X.env) = eval (.Name n pn) X.env := by rfl)
    (hfew : ((backTo cpos (starEach (e :: []) X.env)).all (fun x => !x.1) && (backToKw cpos (keywordEach [] X.env)).all (fun x => x.1.isSome)
      && decide ((e :: []).length + ([] : List Keyword).length + (if ([] : List Keyword).isEmpty then 0 else 1) < 30)) = true := by rfl)
    (hline : (apos.endLine == cpos.line) = true := by rfl) (hs : starEach (e :: []) X.env = (false, eval e X.env) :: starEach [] X.env := by rfl) (hplain : (backTo cpos (starEach [] X.env)).any (·.1) = false := by rfl) (hsw : swapsWith (.Call (.Attribute (.Name n pn) "append" apos) [e] [] cpos) none pos.line X.env = pure false := by rfl) :
    DS X (.Expr (.Call (.Attribute (.Name n pn) "append" apos) [e] [] cpos) pos) ρ (.nx (ρ.set ii (.o (LI (ns ++ [j]))))) := by
  have := ds_append ii h he (by simpa using hz) hN hv hd hcd hbase hfew hline hs hplain hsw
  have e : LI ns ++ [PyData.int j] = LI (ns ++ [j]) := by simp [LI]
  rw [e] at this
  exact this
theorem ds_appendPopI {n2 : Str} {pn2 apos2 cpos2 : Pos} (ii jj : Nat) (kk : Nat) (h : ρ[ii]? = some (.o (LI ns))) (h' : ρ[jj]? = some (.o (LI ms))) (hij : ii ≠ jj) (he : DE X e ρ (.ok (.d (.int i)))) (hk : i = (kk : Int)) (hy : kk < ms.length) (hz : ns.length < 100000) (hz2 : ms.length ≤ 100000)
    (hN : X.N[ii]? = some n := by rfl) (hv : Vis X.env.scope n := by first | exact Or.inl rfl | exact Or.inr (Or.inl rfl)) (hd : (n == ("__debug__" : Str)) = false := by decide)
    (hcd : (n == ("__classdict__" : Str)) = false := by decide)
    (hN2 : X.N[jj]? = some n2 := by rfl) (hv2 : Vis X.env.scope n2 := by first | exact Or.inl rfl | exact Or.inr (Or.inl rfl)) (hd2 : (n2 == ("__debug__" : Str)) = false := by decide)
    (hcd2 : (n2 == ("__classdict__" : Str)) = false := by decide)
    (hbase2 : attributeBase (.Name n2 pn2) "pop" X.env (eval (.Name n2 pn2) X.env) = eval (.Name n2 pn2) X.env := by rfl)
    (hfew2 : ((backTo cpos2 (starEach (e :: []) X.env)).all (fun x => !x.1) && (backToKw cpos2 (keywordEach [] X.env)).all (fun x => x.1.isSome)
      && decide ((e :: []).length + ([] : List Keyword).length + (if ([] : List Keyword).isEmpty then 0 else 1) < 30)) = true := by rfl)
    (hline2 : (apos2.endLine == cpos2.line) = true := by rfl) (hs2 : starEach (e :: []) X.env = (false, eval e X.env) :: starEach [] X.env := by rfl) (hplain2 : (backTo cpos2 (starEach [] X.env)).any (·.1) = false := by rfl)
    (hbase : attributeBase (.Name n pn) "append" X.env (eval (.Name n pn) X.env) = eval (.Name n pn) X.env := by rfl)
    (hfew : ((backTo cpos (starEach (.Call (.Attribute (.Name n2 pn2) "pop" apos2) [e] [] cpos2 :: []) X.env)).all (fun x => !x.1) && (backToKw cpos (keywordEach [] X.env)).all (fun x => x.1.isSome)
      && decide ((Expr.Call (.Attribute (.Name n2 pn2) "pop" apos2) [e] [] cpos2 :: []).length + ([] : List Keyword).length + (if ([] : List Keyword).isEmpty then 0 else 1) < 30)) = true := by rfl)
    (hline : (apos.endLine == cpos.line) = true := by rfl) (hs : starEach (.Call (.Attribute (.Name n2 pn2) "pop" apos2) [e] [] cpos2 :: []) X.env = (false, eval (.Call (.Attribute (.Name n2 pn2) "pop" apos2) [e] [] cpos2) X.env) :: starEach [] X.env := by rfl) (hplain : (backTo cpos (starEach [] X.env)).any (·.1) = false := by rfl)
    (hsw : swapsWith (.Call (.Attribute (.Name n pn) "append" apos) [.Call (.Attribute (.Name n2 pn2) "pop" apos2) [e] [] cpos2] [] cpos) none pos.line X.env = pure false := by rfl) :
    DS X (.Expr (.Call (.Attribute (.Name n pn) "append" apos) [.Call (.Attribute (.Name n2 pn2) "pop" apos2) [e] [] cpos2] [] cpos) pos) ρ (.nx ((ρ.set jj (.o (LI (ms.eraseIdx kk)))).set ii (.o (LI (ns ++ [ms.getD kk 0]))))) := by
  have := ds_appendPop (kk := kk) (y := .int (ms.getD kk 0)) ii jj h h' hij he hk (by
    rw [List.getElem?_map, List.getD_eq_getElem?_getD, List.getElem?_eq_getElem hy]; rfl) (by simpa using hz) (by simpa using hz2) hN hv hd hcd hN2 hv2 hd2 hcd2 hbase2 hfew2 hline2 hs2 hplain2 hbase hfew hline hs hplain hsw
  have e1 : LI ns ++ [PyData.int (ms.getD kk 0)] = LI (ns ++ [ms.getD kk 0]) := by simp [LI]
  have e2 : (LI ms).eraseIdx kk = LI (ms.eraseIdx kk) := erase_map _ _ _
  rw [e1, e2] at this
  exact this
theorem atI_LI {k : Nat} (hi : i = (k : Int)) (hk : k < ns.length) : atI (LI ns) i = some (.int (ns.getD k 0)) := by
  unfold atI ixN
  rw [List.length_map, if_pos (by omega), if_pos (by omega)]
  show (LI ns)[i.toNat]? = _
  have : i.toNat = k := by omega
  rw [this, List.getElem?_map, List.getD_eq_getElem?_getD, List.getElem?_eq_getElem hk]
  rfl
theorem atI_last (h : 0 < ns.length) : atI (LI ns) (-1) = some (.int (ns.getLastD 0)) := by
  unfold atI ixN
  rw [List.length_map, if_neg (by omega), if_pos (by omega)]
  show (LI ns)[(-1 + (ns.length : Int)).toNat]? = _
  have : (-1 + (ns.length : Int)).toNat = ns.length - 1 := by omega
  rw [this, List.getElem?_map, List.getElem?_eq_getElem (by omega)]
  show some (PyData.int _) = _
  congr 2
  cases ns with
  | nil => simp at h
  | cons a l =>
    rw [List.getLastD_cons, ← List.getLast_eq_getLastD, List.getLast_eq_getElem]
    exact List.cons_ne_nil _ _
theorem dss_touch {m1 m0 : Int} {k1 k0 : Nat} {ds : List PyData} {pos2 pos3 p p1 p0 ps : Pos} (ii : Nat) (hm1 : m1 = 1 := by rfl) (hcall : DE X e (ρ.map frzS) (.ok (.f (.tuple [x, .list ds])))) (hz : ds.length < 100000)
    (htest : DT X c (((ρ.map frzS).set ii (.d (.tuple [x, .list ds]))).map frzS) (.ok false)) (hrest : DSs X rest (ρ.set ii .u) r)
    (hi : X.N[ii]? = some n := by rfl) (hlt : ii < ρ.length := by (first | exact (by decide) | (simp; done))) (hx : Loc X.env.scope n := by first | exact Or.inl rfl | exact Or.inr rfl) (hs : swapsWith e (some (.Name n p)) pos.line X.env = pure false := by rfl)
    (hf : X.fn n = true ∨ X.env.scope.names.lookup n = some .local := by first | exact .inl rfl | exact .inr rfl)
    (hv : Vis X.env.scope n := by first | exact Or.inl rfl | exact Or.inr (Or.inl rfl)) (hd : (n == ("__debug__" : Str)) = false := by decide)
    (hcd : (n == ("__classdict__" : Str)) = false := by decide)
    (hbase : attributeBase (.Subscript (.Name n pn) (.Constant (.int m1) k1 p1) ps) "append" X.env (eval (.Subscript (.Name n pn) (.Constant (.int m1) k1 p1) ps) X.env) = eval (.Subscript (.Name n pn) (.Constant (.int m1) k1 p1) ps) X.env := by rfl)
    (hfew : ((backTo cpos (starEach (.Constant (.int m0) k0 p0 :: []) X.env)).all (fun x => !x.1) && (backToKw cpos (keywordEach [] X.env)).all (fun x => x.1.isSome)
      && decide ((Expr.Constant (.int m0) k0 p0 :: []).length + ([] : List Keyword).length + (if ([] : List Keyword).isEmpty then 0 else 1) < 30)) = true := by rfl)
    (hline : (apos.endLine == cpos.line) = true := by rfl) (hst : starEach (.Constant (.int m0) k0 p0 :: []) X.env = (false, eval (.Constant (.int m0) k0 p0) X.env) :: starEach [] X.env := by rfl) (hplain : (backTo cpos (starEach [] X.env)).any (·.1) = false := by rfl)
    (hsw : swapsWith (.Call (.Attribute (.Subscript (.Name n pn) (.Constant (.int m1) k1 p1) ps) "append" apos) [.Constant (.int m0) k0 p0] [] cpos) none pos3.line X.env = pure false := by rfl) :
    DSs X (.Assign [.Name n p] e pos :: .If c sts [] pos2 :: .Expr (.Call (.Attribute (.Subscript (.Name n pn) (.Constant (.int m1) k1 p1) ps) "append" apos) [.Constant (.int m0) k0 p0] [] cpos) pos3 :: rest) ρ r := fun W hW Ho Fo σ τ H D hl E hQ => by
  subst hm1
  obtain ⟨F, e0⟩ := E
  obtain ⟨F', E1, back⟩ := e0.nest
  refine tSs_of (pss_cons ps_ pss_) ?_
  refine tS_of (ps_set hW.2.2 hi hx pe_ hs hf) (hcall W hW H F' σ [] H _ (by rw [List.length_map]; exact hl) E1 fun v H1 E2 => ?_)
  obtain ⟨F1, e2⟩ := E2
  obtain ⟨w', q1, q2⟩ := e2.ok (Sl.f (.tuple [x, .list ds]), some v) (List.mem_append_right _ List.mem_cons_self)
  cases q1
  have q3 : Rp F1 v (.tuple [x, .list ds]) := dp_mono cut_le q2
  cases q2 with
  | tup ht hds =>
    rename_i t vs
    cases hds with
    | cons h0 hds =>
      rename_i v0 vs1
      cases hds with
      | cons h1 hds =>
        rename_i v1 vs2
        cases hds
        cases h1 with
        | lst hp hps =>
          rename_i p us
          have hHp : H p = none := by
            unfold cut at hp
            by_cases z : H p = none
            · exact z
            · rw [if_neg z] at hp; cases hp
          have H1t : H1 t = some (.tup [v0, .ref p]) := e2.inn _ _ (cut_le _ _ ht)
          have H1p : H1 p = some (.lst us) := e2.inn _ _ (cut_le _ _ hp)
          have hul : us.length = ds.length := dps_len hps
          have e3 : Env X.K H F' ((.d (.tuple [x, .list ds]), some (.ref t)) :: (cells (ρ.map frzS) σ ++ [])) H1 := ⟨F1, (e2.perm List.perm_middle).tail.consN (c := (.d (.tuple [x, .list ds]), some (.ref t))) ⟨_, rfl, q3⟩ rfl⟩
          obtain ⟨F2, e4⟩ := e3.push (i := ii) (by rw [List.length_map]; exact hl) (by rw [List.length_map]; exact hlt)
          obtain ⟨F3, E5, _⟩ := e4.nest
          refine tSs_of (pss_cons ps_ pss_) ?_
          refine tS_of (ps_if pt_ pss_ pss_nil) (htest W hW H1 F3 (σ.set ii (some (.ref t))) [] H1 _ (by rw [List.length_set, List.length_map, List.length_set, List.length_map]; exact hl) E5 fun H2 E6 => ?_)
          rw [if_neg Bool.false_ne_true]
          have s12 : Same H1 H2 := let ⟨_, e6⟩ := E6; e6.sH
          have H2t := s12 _ _ H1t
          have H2p := s12 _ _ H1p
          refine tSs_of (pss_cons ps_ pss_) ?_
          refine tS_of (ps_expr (pe_bm PySem.F.plainAttrs_list PySem.F.slot_list_append PySem.F.type_list_append mt_append (pe_ix ix_tup (pe_var hi hv hd hcd) pe_int (fun _ _ => rfl)) (pa_cons pe_int pa_nil hst) hbase hfew hline hst hplain) hsw) ?_
          have hσ : (σ.set ii (some (V.ref t)))[ii]? = some (some (.ref t)) := List.getElem?_set_self (by rw [hl]; exact hlt)
          refine ⟨.ref t, hσ, t, [v0, .ref p], 1, .ref p, rfl, rfl, SqT.of H2t, rfl, ?_⟩
          refine ⟨.inl ⟨rfl, us, .of H2p⟩, p, us, .int m0, rfl, rfl, H2p, by rw [hul]; exact Nat.lt_of_lt_of_le hz (by decide), ?_⟩
          have sH3 : Same H (upd H2 p (.lst (us ++ [.int m0]))) := fun b o z => by
            have nb : b ≠ p := fun q => by rw [q, hHp] at z; cases z
            rw [upd_ne nb]
            exact s12 _ _ (e2.sH _ _ z)
          have e7 := back _ sH3
          have e8 : Env X.K Ho Fo ((.u, some (.ref t)) :: (cells ρ σ ++ τ)) (upd H2 p (.lst (us ++ [.int m0]))) := ⟨F, e7.consN trivial rfl⟩
          exact hrest W hW Ho Fo _ τ _ D (by rw [List.length_set, List.length_set]; exact hl) (e8.push hl hlt) hQ
end
end DL

namespace DL
open PySem PySem.Spec PyProof.Rows L2
section
variable {X : Cx} {a b c e f o elt tg iter : Expr} {es ifs : List Expr} {ρ ρ' ρ1 ρ2 : List Sl} {pos apos cpos p p2 p3 : Pos} {x y z : PyData} {k k1 k2 : Sl} {n m v name : Str} {i j : Int} {xs ys : List PyData} {ns : List Int} {st : Stmt} {sts body rest : List Stmt} {r : Out} {scope : Scope}
theorem de_v (ii : Nat) {w : V} (h : ρ[ii]? = some (.v w)) (hN : X.N[ii]? = some n := by rfl) (hv : Vis X.env.scope n := by first | exact Or.inl rfl | exact Or.inr (Or.inl rfl) | exact Or.inr (Or.inr rfl)) (hd : (n == ("__debug__" : Str)) = false := by decide)
    (hcd : (n == ("__classdict__" : Str)) = false := by decide) : DE X (.Name n pos) ρ (.ok (.v w)) := fun W hW Ho Fo σ τ H Q hl E hQ => by
  obtain ⟨v, h1, h2⟩ := cells_at hl h
  have e1 : v = some w := by
    obtain ⟨F, e⟩ := E
    exact e.ok _ (List.mem_append_left _ h2)
  subst e1
  exact tE_of (pe_var hN hv hd hcd) ⟨w, h1, hQ _ _ (E.raw w).unmid⟩
theorem de_gref {C : Addr} (hm : X.mg n = some (.ref C)) (hg : Gl X n := by rfl) (hd : (n == ("__debug__" : Str)) = false := by decide) : DE X (.Name n pos) ρ (.ok (.v (.ref C))) := fun W hW Ho Fo σ τ H Q hl E hQ =>
  tE_of (pe_glob (v := .ref C) hg hm rfl hd) (hQ _ _ (E.raw _).unmid)
theorem relV_ref {C : Addr} {u : Value} (h : RelV (.ref C) u) : u = .ref C := h
theorem relV_ty {T : String} {u : Value} (h : RelV (.ty T) u) : u = .type T := h
theorem de_isiP {ad D : Addr} {oe : Obj} {cw : V} {cv : Value} {q : Bool} (hp : (ad, oe) ∈ X.pn) (C : L2.ExcC X.K D) (hz : Zc (.ref D) none oe) (hf : ∃ vs, oe.data = .fields vs) (hm : X.mg "isinstance" = none) (ha : DE X a ρ (.ok (.v (.ref ad)))) (hb : DE X b ρ (.ok (.v cw))) (hr : ∀ u, RelV cw u → u = cv) (hk : PySem.W.kitOne X.K (.ref D) cv = some q) (hg : Gl X "isinstance" := by rfl)
    (he : starEach (a :: [b]) X.env = (false, eval a X.env) :: starEach [b] X.env := by rfl) (he2 : starEach [b] X.env = (false, eval b X.env) :: starEach [] X.env := by rfl) (hpl : (backTo pos (starEach [b] X.env)).any (·.1) = false := by rfl) :
    DE X (.Call (.Name "isinstance" p) [a, b] [] pos) ρ (.ok (.d (.bool q))) :=
  de_callB (call_isP hp C hz hf) hm boot_isinstance (da_cons ha (da_cons hb da_nil he2) he) (fun Ho Fo L vs H Q hl E hQ => by
    match vs, hl with
    | [v, c], _ =>
      obtain ⟨F, e⟩ := E
      have q1 : some v = some (V.ref ad) := e.ok (Sl.v (.ref ad), some v) List.mem_cons_self
      have q2 : some c = some cw := e.ok (Sl.v cw, some c) (List.mem_cons_of_mem _ List.mem_cons_self)
      cases q1
      cases q2
      exact ⟨_, cv, q, rfl, hr, hk, hQ _ _ (Env.bl (L := L) ⟨F, e.tail.tail⟩ q)⟩) hg (by decide) (by decide) he hpl
theorem de_meth {T id : String} {ks : List Sl} {rr : V → List V → Hp → VK → Prop} (pa : PlainAttrs T) (slot : Slot T name id) (hty : typeOf (.builtin id) = pure (.type "method_descriptor")) (hmt : MtR X id rr) (ho : DE X o ρ (.ok k1)) (ha : DA X (e :: es) ρ ks)
    (ty : ∀ (Ho Fo F : Hp) (L : List Cell) (v : V) (H : Hp), EnvF X.K Ho Fo F H ((k1, some v) :: L) → tyV X.K T v H)
    (hr : ∀ (Ho Fo : Hp) (L : List Cell) (v : V) (ws : List V) (H : Hp) (Q : VK), ws.length = ks.length → Env X.K Ho Fo ((k1, some v) :: (cells ks (ws.map some) ++ L)) H → (∀ z H', Env X.K Ho Fo ((k, some z) :: L) H' → Q z H') → rr v ws H Q)
    (hbase : attributeBase o name X.env (eval o X.env) = eval o X.env := by rfl)
    (hfew : ((backTo cpos (starEach (e :: es) X.env)).all (fun x => !x.1) && (backToKw cpos (keywordEach [] X.env)).all (fun x => x.1.isSome)
      && decide ((e :: es).length + ([] : List Keyword).length + (if ([] : List Keyword).isEmpty then 0 else 1) < 30)) = true := by rfl)
    (hline : (apos.endLine == cpos.line) = true := by rfl) (hs : starEach (e :: es) X.env = (false, eval e X.env) :: starEach es X.env := by rfl) (hplain : (backTo cpos (starEach es X.env)).any (·.1) = false := by rfl) :
    DE X (.Call (.Attribute o name apos) (e :: es) [] cpos) ρ (.ok k) := fun W hW Ho Fo σ τ H Q hl E hQ => by
  refine tE_of (pe_bm pa slot hty hmt pe_ pa_ hbase hfew hline hs hplain) (ho W hW Ho Fo σ τ H _ hl E fun v H1 E1 => ⟨?_, ha W hW Ho Fo σ _ H1 _ hl E1 fun ws H2 e2 E2 => ?_⟩)
  · obtain ⟨F, e⟩ := E1.mid
    exact ty Ho Fo F _ v H1 e
  · refine hr Ho Fo (cells ρ σ ++ τ) v ws H2 Q e2 ?_ fun z H' E' => hQ z H' E'.unmid
    have E3 : Env X.K Ho Fo (cells ρ σ ++ (cells ks (ws.map some) ++ ((k1, some v) :: τ))) H2 := E2
    refine E3.perm ?_
    refine (List.Perm.append_left _ List.perm_middle).trans (List.perm_middle.trans (List.Perm.cons _ ?_))
    rw [← List.append_assoc, ← List.append_assoc]
    exact List.Perm.append_right _ List.perm_append_comm
theorem ty_list {K : Frag} {Ho Fo F H : Hp} {L : List Cell} {v : V} (E : EnvF K Ho Fo F H ((.d (.list xs), some v) :: L)) : tyV K "list" v H := by
  obtain ⟨w, e1, h1⟩ := E.ok _ List.mem_cons_self
  cases e1
  cases h1 with
  | lst hs hd => exact .inl ⟨rfl, _, .of (E.inn _ _ hs)⟩
theorem ty_str {K : Frag} {Ho Fo F H : Hp} {L : List Cell} {v : V} {u : Str} (E : EnvF K Ho Fo F H ((.d (.str u), some v) :: L)) : tyV K "str" v H := by
  obtain ⟨w, e1, h1⟩ := E.ok _ List.mem_cons_self
  cases e1
  cases h1
  rfl
abbrev LB (bs : List Bool) : List PyData := bs.map PyData.bool
theorem dps_bls {F : Hp} : ∀ {vs : List V} {bs : List Bool}, RpAll F vs (LB bs) → vs = bs.map V.bl
  | _, [], h => by cases h; rfl
  | _, n :: ns, h => by
    cases h with
    | cons h t => rw [dp_bl h, dps_bls t]; rfl
theorem bls_flat (bs : List Bool) : (bs.map V.bl).all flatV = true := by
  rw [List.all_map, List.all_eq_true]
  intro y _
  rfl
theorem bls_count (q : Bool) : ∀ (bs : List Bool), (bs.map V.bl).countP (fun z => eqV z (V.bl q)) = bs.count q
  | [] => rfl
  | b :: bs => by
    rw [List.map_cons, List.countP_cons, List.count_cons, bls_count q bs]
    rfl
theorem de_count {bs : List Bool} {q : Bool} (ho : DE X o ρ (.ok (.d (.list (LB bs))))) (ha : DE X e ρ (.ok (.d (.bool q))))
    (hbase : attributeBase o "count" X.env (eval o X.env) = eval o X.env := by rfl)
    (hfew : ((backTo cpos (starEach (e :: []) X.env)).all (fun x => !x.1) && (backToKw cpos (keywordEach [] X.env)).all (fun x => x.1.isSome)
      && decide ((e :: []).length + ([] : List Keyword).length + (if ([] : List Keyword).isEmpty then 0 else 1) < 30)) = true := by rfl)
    (hline : (apos.endLine == cpos.line) = true := by rfl) (hs : starEach (e :: []) X.env = (false, eval e X.env) :: starEach [] X.env := by rfl) (hplain : (backTo cpos (starEach [] X.env)).any (·.1) = false := by rfl) :
    DE X (.Call (.Attribute o "count" apos) [e] [] cpos) ρ (.ok (.d (.int (bs.count q)))) :=
  de_meth PySem.F.plainAttrs_list PySem.F.slot_list_count PySem.F.type_list_count mt_countF ho (da_cons ha da_nil hs) (fun _ _ _ _ _ _ E => ty_list E) (fun Ho Fo L v ws H Q hl E hQ => by
    match ws, hl with
    | [y], _ =>
      obtain ⟨F, E⟩ := E
      obtain ⟨w, e1, h1⟩ := E.ok _ List.mem_cons_self
      obtain ⟨w2, e2, h2⟩ := E.ok (Sl.d (.bool q), some y) (List.mem_cons_of_mem _ List.mem_cons_self)
      cases e1
      cases e2
      cases dp_bl h2
      cases h1 with
      | lst hs hd =>
        rw [dps_bls hd] at hs
        refine ⟨_, _, _, rfl, rfl, .of (E.inn _ _ hs), rfl, bls_flat _, ?_⟩
        rw [bls_count]
        exact hQ _ _ (Env.int (L := L) ⟨F, E.tail.tail⟩ _)) hbase hfew hline hs hplain
theorem de_indexB {bs : List Bool} {q : Bool} {kk : Nat} (ho : DE X o ρ (.ok (.d (.list (LB bs))))) (ha : DE X e ρ (.ok (.d (.bool q)))) (h1 : bs[kk]? = some q) (h2 : ∀ (m : Nat) (b : Bool), m < kk → bs[m]? = some b → (b == q) = false)
    (hbase : attributeBase o "index" X.env (eval o X.env) = eval o X.env := by rfl)
    (hfew : ((backTo cpos (starEach (e :: []) X.env)).all (fun x => !x.1) && (backToKw cpos (keywordEach [] X.env)).all (fun x => x.1.isSome)
      && decide ((e :: []).length + ([] : List Keyword).length + (if ([] : List Keyword).isEmpty then 0 else 1) < 30)) = true := by rfl)
    (hline : (apos.endLine == cpos.line) = true := by rfl) (hs : starEach (e :: []) X.env = (false, eval e X.env) :: starEach [] X.env := by rfl) (hplain : (backTo cpos (starEach [] X.env)).any (·.1) = false := by rfl) :
    DE X (.Call (.Attribute o "index" apos) [e] [] cpos) ρ (.ok (.d (.int kk))) :=
  de_meth PySem.F.plainAttrs_list PySem.F.slot_list_index PySem.F.type_list_index mt_index ho (da_cons ha da_nil hs) (fun _ _ _ _ _ _ E => ty_list E) (fun Ho Fo L v ws H Q hl E hQ => by
    match ws, hl with
    | [y], _ =>
      obtain ⟨F, E⟩ := E
      obtain ⟨w, e1, h3⟩ := E.ok _ List.mem_cons_self
      obtain ⟨w2, e2, h4⟩ := E.ok (Sl.d (.bool q), some y) (List.mem_cons_of_mem _ List.mem_cons_self)
      cases e1
      cases e2
      cases dp_bl h4
      cases h3 with
      | lst hs hd =>
        rw [dps_bls hd] at hs
        refine ⟨_, _, _, kk, V.bl q, rfl, rfl, .of (E.inn _ _ hs), rfl, bls_flat _, by rw [List.getElem?_map, h1]; rfl, (show (q == q) = true from beq_self_eq_true q), fun m z' hm hz => ?_, hQ _ _ (Env.int (L := L) ⟨F, E.tail.tail⟩ _)⟩
        rw [List.getElem?_map] at hz
        cases hb : bs[m]? with
        | none => rw [hb] at hz; cases hz
        | some b =>
          rw [hb] at hz
          cases hz
          exact h2 m b hm hb) hbase hfew hline hs hplain
def fmI (q : Int → Bool) (g : Int → PyData) (x : PyData) : Option PyData := match x with
  | .int c => if q c = true then some (g c) else none
  | _ => none
theorem fmI_eq (q : Int → Bool) (g : Int → PyData) : ∀ ns : List Int, (LI ns).filterMap (fmI q g) = (ns.filter q).map g
  | [] => rfl
  | n :: ns => by
    show (PyData.int n :: LI ns).filterMap (fmI q g) = _
    cases h : q n with
    | true => rw [List.filterMap_cons_some (b := g n) (by show (if q n = true then _ else _) = _; rw [if_pos h]), List.filter_cons_of_pos h, fmI_eq q g ns]; rfl
    | false => rw [List.filterMap_cons_none (by show (if q n = true then _ else _) = _; rw [if_neg (by rw [h]; exact Bool.false_ne_true)]), List.filter_cons_of_neg (by rw [h]; exact Bool.false_ne_true), fmI_eq q g ns]
theorem de_filmap (q : Int → Bool) (g : Int → PyData) (v : Str) (jj : Nat) (hc : X.calm = true) (hi : DE X iter ρ (.ok (.d (.list (LI ns))))) (ok : BlkOk X.N X.env.scope scope [(v, jj)]) (hg : ∀ (s : Shared) (H : Hp) (C : Addr) (cl : List (Str × Addr)) (fp : List Addr), PG (X.blk s H scope (compEnvC scope cl C X.env) fp) tg (gName jj))
    (hu : ρ[jj]? = some Sl.u) (hz : ns.length ≤ 100000) (hif : ∀ x ∈ ns, ∀ X', Bk X scope X' → DT X' c (ρ.set jj (.d (.int x))) (.ok (q x))) (he : ∀ x ∈ ns, q x = true → ∀ X', Bk X scope X' → DE X' elt (ρ.set jj (.d (.int x))) (.ok (.d (g x))))
    (hs : ∀ x, foldedSetIterable iter X.env x = pure x := by intro _; rfl) : DE X (.ListComp elt [⟨tg, iter, [c], 0⟩] scope pos) ρ (.ok (.o ((ns.filter q).map g))) := by
  have hlt : jj < ρ.length := (List.getElem?_eq_some_iff.mp hu).1
  rw [← fmI_eq]
  refine de_lc (F := fmI q g) [(v, jj)] (fun x => ρ.set jj (.d x)) hc hi ok hg (by simpa using hu) (by simpa using hz) (fun x hx => tgw_name hlt) (fun x hx => wk_setu hu) (fun x hx X' hX => ?_) (fun x hx y hy X' hX => ?_) (Nat.le_refl 1) hs
  · obtain ⟨c', hm, rfl⟩ := List.mem_map.mp hx
    have := hif c' hm X' hX
    show DT X' c (ρ.set jj (.d (.int c'))) (.ok (if q c' = true then some (g c') else none).isSome)
    cases h : q c' with
    | true => rw [if_pos rfl]; rw [h] at this; exact this
    | false => rw [if_neg Bool.false_ne_true]; rw [h] at this; exact this
  · obtain ⟨c', hm, rfl⟩ := List.mem_map.mp hx
    have hy' : (if q c' = true then some (g c') else none) = some y := hy
    by_cases h : q c' = true
    · rw [if_pos h] at hy'
      cases hy'
      exact he c' hm h X' hX
    · rw [if_neg h] at hy'; cases hy'
theorem de_mapI (g : Int → PyData) (v : Str) (jj : Nat) (hc : X.calm = true) (hi : DE X iter ρ (.ok (.d (.list (LI ns))))) (ok : BlkOk X.N X.env.scope scope [(v, jj)]) (hg : ∀ (s : Shared) (H : Hp) (C : Addr) (cl : List (Str × Addr)) (fp : List Addr), PG (X.blk s H scope (compEnvC scope cl C X.env) fp) tg (gName jj))
    (hu : ρ[jj]? = some Sl.u) (hz : ns.length ≤ 100000) (he : ∀ x ∈ ns, ∀ X', Bk X scope X' → DE X' elt (ρ.set jj (.d (.int x))) (.ok (.d (g x))))
    (hs : ∀ x, foldedSetIterable iter X.env x = pure x := by intro _; rfl) : DE X (.ListComp elt [⟨tg, iter, [], 0⟩] scope pos) ρ (.ok (.o (ns.map g))) := by
  have hlt : jj < ρ.length := (List.getElem?_eq_some_iff.mp hu).1
  rw [← mapI_eq]
  refine de_lc (F := mapI g) [(v, jj)] (fun x => ρ.set jj (.d x)) hc hi ok hg (by simpa using hu) (by simpa using hz) (fun x hx => tgw_name hlt) (fun x hx => wk_setu hu) (fun x hx X' hX => ?_) (fun x hx y hy X' hX => ?_) (by decide) hs
  · obtain ⟨c', hm, rfl⟩ := List.mem_map.mp hx
    exact (rfl : (some (g c')).isSome = true)
  · obtain ⟨c', hm, rfl⟩ := List.mem_map.mp hx
    cases hy
    exact he c' hm X' hX
theorem ds_setMapI (g : Int → PyData) {py : Pos} (i : Nat) (v : Str) (jj : Nat) (hc : X.calm = true) (hi : DE X iter ρ (.ok (.d (.list (LI ns))))) (ok : BlkOk X.N X.env.scope scope [(v, jj)]) (hg : ∀ (s : Shared) (H : Hp) (C : Addr) (cl : List (Str × Addr)) (fp : List Addr), PG (X.blk s H scope (compEnvC scope cl C X.env) fp) tg (gName jj))
    (hu : ρ[jj]? = some Sl.u) (hz : ns.length ≤ 100000) (he : ∀ x ∈ ns, ∀ X', Bk X scope X' → DE X' elt (ρ.set jj (.d (.int x))) (.ok (.d (g x))))
    (hlt : i < ρ.length := by (first | exact (by decide) | (simp; done))) (hy : X.N[i]? = some n := by rfl) (hyl : X.env.scope.names.lookup n = some .local := by rfl) (hsw : swapsWith (.ListComp elt [⟨tg, iter, [], 0⟩] scope apos) (some (.Name n py)) pos.line X.env = pure true := by exact sw_true rfl rfl rfl (by decide +kernel))
    (hs : ∀ x, foldedSetIterable iter X.env x = pure x := by intro _; rfl) : DS X (.Assign [.Name n py] (.ListComp elt [⟨tg, iter, [], 0⟩] scope apos) pos) ρ (.nx (ρ.set i (.o (ns.map g)))) := by
  have hjt : jj < ρ.length := (List.getElem?_eq_some_iff.mp hu).1
  rw [← mapI_eq]
  refine ds_setLc (F := mapI g) [(v, jj)] i (fun x => ρ.set jj (.d x)) hc hi ok hg (by simpa using hu) (by simpa using hz) (fun x hx => tgw_name hjt) (fun x hx => wk_setu hu) (fun x hx X' hX => ?_) (fun x hx y hy X' hX => ?_) hlt hy hyl hsw (by decide) hs
  · obtain ⟨c', hm, rfl⟩ := List.mem_map.mp hx
    exact (rfl : (some (g c')).isSome = true)
  · obtain ⟨c', hm, rfl⟩ := List.mem_map.mp hx
    cases hy
    exact he c' hm X' hX
theorem atI_of {xs : List PyData} {x : PyData} {i : Int} (h0 : 0 ≤ i) (h : xs[i.toNat]? = some x) : atI xs i = some x := by
  have := (List.getElem?_eq_some_iff.mp h).1
  unfold atI ixN
  rw [if_pos h0, if_pos (by omega)]
  exact h
abbrev LL (rs : List (List Int)) : List PyData := rs.map fun r => PyData.list (LI r)
theorem ll_at {rs : List (List Int)} {i : Nat} {x : PyData} (h : (LL rs)[i]? = some x) : ∃ r, rs[i]? = some r ∧ x = .list (LI r) := by
  rw [List.getElem?_map] at h
  cases q : rs[i]? with
  | none => rw [q] at h; cases h
  | some y =>
    rw [q] at h
    cases h
    exact ⟨y, rfl, rfl⟩
theorem ll_get {rs : List (List Int)} {i : Nat} {r : List Int} (h : rs[i]? = some r) : (LL rs)[i]? = some (.list (LI r)) := by rw [List.getElem?_map, h]; rfl
theorem li_get {ns : List Int} {i : Nat} {r : Int} (h : ns[i]? = some r) : (LI ns)[i]? = some (.int r) := by rw [List.getElem?_map, h]; rfl
theorem li_at' {ns : List Int} {i : Nat} {x : PyData} (h : (LI ns)[i]? = some x) : ∃ r, ns[i]? = some r ∧ x = .int r := by
  rw [List.getElem?_map] at h
  cases q : ns[i]? with
  | none => rw [q] at h; cases h
  | some y =>
    rw [q] at h
    cases h
    exact ⟨y, rfl, rfl⟩
theorem take_flat {α β : Type} {f : α → List β} {l : List α} {j : Nat} {x : α} (h : l[j]? = some x) : (l.take (j + 1)).flatMap f = (l.take j).flatMap f ++ f x := by
  rw [List.take_add_one, h, List.flatMap_append]
  simp
end
theorem dss_nil_is {X : Cx} {ρ ρ' : List Sl} (h : ρ = ρ') : DSs X [] ρ (.nx ρ') := h ▸ dss_nil
theorem li_app (a : List Int) (x : Int) : LI a ++ [PyData.int x] = LI (a ++ [x]) := by simp [LI]
theorem li_cat (a b : List Int) : LI a ++ LI b = LI (a ++ b) := by simp [LI]
theorem li_rev (a : List Int) : (LI a).reverse = LI a.reverse := by simp [LI]
structure Cls (K : PySem.W.Frag) (mg : Str → Option Value) (CT C0 C1 C2 C3 C4 C5 C6 : Addr) : Prop where
  gT : mg "TellError" = some (.ref CT)
  g0 : mg "NoPack" = some (.ref C0)
  g1 : mg "NoHand" = some (.ref C1)
  g2 : mg "NoRow" = some (.ref C2)
  g3 : mg "NoCard" = some (.ref C3)
  g4 : mg "NoNumber" = some (.ref C4)
  g5 : mg "NoPlan" = some (.ref C5)
  g6 : mg "NoNote" = some (.ref C6)
  w0 : WhC K C0 C0 C1 C2 C3 C4 C5 C6 0
  w1 : WhC K C1 C0 C1 C2 C3 C4 C5 C6 1
  w2 : WhC K C2 C0 C1 C2 C3 C4 C5 C6 2
  w3 : WhC K C3 C0 C1 C2 C3 C4 C5 C6 3
  w4 : WhC K C4 C0 C1 C2 C3 C4 C5 C6 4
  w5 : WhC K C5 C0 C1 C2 C3 C4 C5 C6 5
  w6 : WhC K C6 C0 C1 C2 C3 C4 C5 C6 6
  t0 : PySem.W.exmOne K (.ref C0) (.ref CT) = some true
  t1 : PySem.W.exmOne K (.ref C1) (.ref CT) = some true
  t2 : PySem.W.exmOne K (.ref C2) (.ref CT) = some true
  t3 : PySem.W.exmOne K (.ref C3) (.ref CT) = some true
  t4 : PySem.W.exmOne K (.ref C4) (.ref CT) = some true
  t5 : PySem.W.exmOne K (.ref C5) (.ref CT) = some true
  t6 : PySem.W.exmOne K (.ref C6) (.ref CT) = some true
theorem kit_mk {K : PySem.W.Frag} {D C : Addr} {b : Bool} (hd : PySem.W.hasDictIn K C = true) (ht : PySem.W.typeIn K (.ref C) = some (.type "type")) (ss : PySem.W.subIn K (.ref C) (.ref C) = some true) (hs : PySem.W.subIn K (.ref D) (.ref C) = some b) : PySem.W.kitOne K (.ref D) (.ref C) = some b := by
  obtain ⟨cd, hc, _⟩ := PySem.W.any_some hd
  have e2 : ((PySem.W.clsIn K C).isSome && PySem.W.typeIn K (.ref C) == some (.type "type")) = true := by rw [hc, ht] <;> rfl
  unfold PySem.W.kitOne
  by_cases e : (Value.ref D == Value.ref C) = true
  · have e' : D = C := Value.ref.inj (beq_iff_eq.mp e)
    subst e'
    rw [if_pos e]
    exact ss.symm.trans hs
  · rw [if_neg e]
    show (if ((PySem.W.clsIn K C).isSome && PySem.W.typeIn K (.ref C) == some (.type "type")) = true then PySem.W.subIn K (.ref D) (.ref C) else none) = some b
    rw [if_pos e2]
    exact hs
theorem kit_val {K : PySem.W.Frag} {D : Addr} (hs : PySem.W.subIn K (.ref D) (.type "ValueError") = some true) : PySem.W.kitOne K (.ref D) (.type "ValueError") = some true := by
  unfold PySem.W.kitOne
  rw [if_neg (by intro h; cases h)]
  show (if PySem.W.kitMeta "ValueError" = true then PySem.W.subIn K (.ref D) (.type "ValueError") else none) = some true
  rw [if_pos (by decide +kernel)]
  exact hs
theorem wh_mk {K : PySem.W.Frag} {D C0 C1 C2 C3 C4 C5 C6 : Addr} {j : Nat} (hn : PySem.W.specialIn K (.builtin "object.__class__") "__get__" = some (some (.builtin "getset_descriptor.__get__"))) (ht : PySem.W.takesIn K (.builtin "object.__class__") = some true)
    (hg : PySem.W.findIn K (.ref D) "__getattribute__" = some (some (.builtin "BaseException.__getattribute__"))) (hk : PySem.W.findIn K (.ref D) "__getattr__" = some none) (hs : PySem.W.subIn K (.ref D) (.type "BaseException") = some true) (hd : PySem.W.hasDictIn K D = true)
    (ha : PySem.W.findIn K (.ref D) "__class__" = some (some (.builtin "object.__class__"))) (hm : PySem.W.mroIn K D (.type "object") = some true)
    (k0 : PySem.W.kitOne K (.ref D) (.ref C0) = some (decide (j = 0))) (k1 : PySem.W.kitOne K (.ref D) (.ref C1) = some (decide (j = 1))) (k2 : PySem.W.kitOne K (.ref D) (.ref C2) = some (decide (j = 2))) (k3 : PySem.W.kitOne K (.ref D) (.ref C3) = some (decide (j = 3)))
    (k4 : PySem.W.kitOne K (.ref D) (.ref C4) = some (decide (j = 4))) (k5 : PySem.W.kitOne K (.ref D) (.ref C5) = some (decide (j = 5))) (k6 : PySem.W.kitOne K (.ref D) (.ref C6) = some (decide (j = 6))) (kv : PySem.W.kitOne K (.ref D) (.type "ValueError") = some true) : WhC K D C0 C1 C2 C3 C4 C5 C6 j :=
  ⟨⟨hg, hk, hs, hd, ha, hn, ht, hm⟩, k0, k1, k2, k3, k4, k5, k6, kv⟩
section
variable {P : Program} {w : World} {K : Frag} {mg : Str → Option Value} {base : Heap}
theorem mk_calW {x : Str} {st : Stmt} {N : List Str} {k : Nat} {D : Addr} {j : Nat} (Dn : Df K mg x st ["e"]) (Sc : FnScope N ["e"] (defScope st)) (hp : 1 ≤ N.length)
    (body : ∀ (f : Addr) (cdv : Value) (A : Around) (outer : List PySem.Env) (s : Shared) (H : Hp) (E : XK) (p : Addr × Obj), Zc (.ref D) none p.2 → (∃ vs, p.2.data = .fields vs) →
      DSs (L2H.cxH (L2N.CX P w) P w K mg base N x (defScope st) f cdv A outer s H E p) (defBody st) (.v (.ref p.1) :: List.replicate (N.length - 1) .u) (.rt (.d (.int j)))) : CalW P w K mg base x (k + 1) D j := by
  obtain ⟨f, fd, Fd, hm, hb⟩ := Dn
  refine ⟨f, fd, hm, Fd.kp, hb, ?_⟩
  obtain ⟨oc, od, kV, doc, pm, an, cdv, ct, osl, rfl, lk, hcd⟩ := Fd.ex
  refine fn_ofP lk hcd Sc (fun p vs H Q E h => by obtain ⟨rfl, _⟩ := h; rfl) fun A outer s H vs Q E p hot hr hsp => ⟨_, pss_, ?_⟩
  obtain ⟨rfl, hz, hf, hQ⟩ := hsp
  have hd := body f cdv A outer s H E p hz hf
  have hW : Exc (L2H.cxH (L2N.CX P w) P w K mg base N x (defScope st) f cdv A outer s H E p) (fun _ _ _ _ => False) := ⟨takesN0, passes_of rfl, Sc.nd⟩
  have hcl : cells (Sl.v (V.ref p.1) :: List.replicate (N.length - 1) Sl.u) (L2.start N [V.ref p.1]) = (Sl.v (V.ref p.1), some (V.ref p.1)) :: cells (List.replicate (N.length - 1) Sl.u) (List.replicate (N.length - 1) none) := rfl
  have noadr : ∀ c ∈ cells (Sl.v (V.ref p.1) :: List.replicate (N.length - 1) Sl.u) (L2.start N [V.ref p.1]) ++ [], adr c = none := fun c hc' => by
    rw [List.append_nil, hcl] at hc'
    rcases List.mem_cons.mp hc' with rfl | h
    · rfl
    · rw [cells_u _ c h]; rfl
  have hfm : (cells (Sl.v (V.ref p.1) :: List.replicate (N.length - 1) Sl.u) (L2.start N [V.ref p.1]) ++ []).filterMap adr = [] := List.filterMap_eq_nil_iff.mpr noadr
  have hlen1 : (L2.start N [V.ref p.1]).length = (Sl.v (V.ref p.1) :: List.replicate (N.length - 1) Sl.u).length := by
    unfold L2.start
    simp
  refine hd _ hW H (fun _ => none) (L2.start N [V.ref p.1]) [] H { nx := fun _ H' => Q .non H', rt := Q } hlen1 ⟨fun _ => none, Same.refl _, Same.refl _, (fun b o q => nomatch q), (fun b o q => nomatch q), fun c hc' => ?_, ?_, ?_⟩ fun v H' E' => ?_
  · rw [List.append_nil, hcl] at hc'
    rcases List.mem_cons.mp hc' with rfl | h
    · rfl
    · rw [cells_u _ c h]; trivial
  · rw [hfm]; exact List.nodup_nil
  · rw [hfm]; intro p hp; cases hp
  · obtain ⟨F, e⟩ := E'
    obtain ⟨w', e1, h1⟩ := e.ok _ List.mem_cons_self
    cases e1
    cases dp_int h1
    exact hQ H' e.sH
end
end DL

namespace DL
open PySem PySem.Spec PyProof.Rows L2
def lexlt : List Int → List Int → Bool
  | [], [] => false
  | [], _ :: _ => true
  | _ :: _, [] => false
  | a :: s, b :: t => decide (a < b) || (decide (a = b) && lexlt s t)
theorem toks_lexlt : ∀ a b : List Int, PyProof.Rows.lexLt itemOrd (PySem.W.keyToksAll (LI a)) (PySem.W.keyToksAll (LI b)) = lexlt a b
  | [], [] => rfl
  | [], y :: b => rfl
  | x :: a, [] => rfl
  | x :: a, y :: b => by
    have al : PySem.W.alike (.int x) (.int y) = true := rfl
    show PyProof.Rows.lexLt itemOrd (PySem.W.keyToksAll (.int x :: LI a)) (PySem.W.keyToksAll (.int y :: LI b)) = _
    by_cases h : x = y
    · rw [PySem.W.dataLt_all_yes al (by rw [PyData.eqv, h]; exact beq_self_eq_true y), toks_lexlt a b]
      unfold lexlt
      rw [decide_eq_false (show ¬ x < y by omega), decide_eq_true h]
      conv => rhs; unfold lexlt
      rfl
    · rw [PySem.W.dataLt_all_no al (by rw [PyData.eqv, Bool.beq_eq_decide_eq]; exact decide_eq_false h), PySem.W.dataLt_int]
      conv => rhs; unfold lexlt
      rw [decide_eq_false h]
      simp
theorem dlt_list (a b : List Int) : PySem.W.dataLt (.list (LI a)) (.list (LI b)) = lexlt a b := by rw [PySem.W.dataLt_list, toks_lexlt]
theorem dlt_tup (a b : List Int) : PySem.W.dataLt (.tuple (LI a)) (.tuple (LI b)) = lexlt a b := by rw [PySem.W.dataLt_tuple, toks_lexlt]
def rngF (a c : Int) : List Int := (List.range (c - a).toNat).map fun i => a + Int.ofNat i
theorem rngF_data (a c : Int) (nn : Nat) (hn : nn = (c - a).toNat) : ((List.range nn).map fun i => PyData.int (a + (i : Nat))) = LI (rngF a c) := by
  subst hn
  unfold rngF LI
  rw [List.map_map]
  rfl
theorem mem_rngF {a c x : Int} : x ∈ rngF a c ↔ a ≤ x ∧ x < c := by
  unfold rngF
  rw [List.mem_map]
  constructor
  · rintro ⟨i, h, rfl⟩
    rw [List.mem_range] at h
    show a ≤ a + (i : Int) ∧ a + (i : Int) < c
    omega
  · intro h
    exact ⟨(x - a).toNat, by rw [List.mem_range]; omega, by show a + (((x - a).toNat : Nat) : Int) = x; omega⟩
theorem rngF_len (a c : Int) : (rngF a c).length = (c - a).toNat := by simp [rngF]
section
variable {X : Cx} {a b c e f o elt tg iter : Expr} {es ifs : List Expr} {ρ ρ' ρ1 ρ2 : List Sl} {pos apos cpos p p2 p3 q : Pos} {x y z : PyData} {k k1 k2 : Sl} {n m v name : Str} {i j lo hi : Int} {xs ys : List PyData} {ns ms : List Int} {st : Stmt} {sts body rest : List Stmt} {r : Out} {scope : Scope}
def rLtD (K : PySem.W.Frag) : R2 := fun x y H Q => ∃ d e, Dp K H x d ∧ Dp K H y e ∧ PySem.W.alike d e = true ∧ d ≠ .none ∧ d.depth ≤ 64 ∧ Q (.bl (PySem.W.dataLt d e)) H
theorem op_ltD (hu : X.A.units + 65 < cLine) : OpR X (compareOp .Lt) (rLtD X.K) := by
  intro pins s σ H x y v u Q I rx ry h
  obtain ⟨d, e, hd, he, al, hn, hdp, q⟩ := h
  obtain ⟨as, r1⟩ := Dp.reads I d x v hd rx
  obtain ⟨bs, r2⟩ := Dp.reads I e y u he ry
  exact PySem.W.rcLt_alike d e X.A s v u as bs r1 r2 al hn (by omega) X.prog X.w _ _ ⟨.bl _, H, I, rfl, q⟩
theorem rd_ltL {K : Frag} : RD K (rLtD K) (.d (.list (LI ns))) (.d (.list (LI ms))) (.d (.bool (lexlt ns ms))) := fun Ho Fo L v w H Q E hQ => by
  obtain ⟨v', e1, h1⟩ := E.fget List.mem_cons_self
  obtain ⟨w', e2, h2⟩ := E.fget (List.mem_cons_of_mem _ List.mem_cons_self)
  cases e1; cases e2
  refine ⟨_, _, dp_dp h1, dp_dp h2, PySem.W.alike_ints _ _, (fun z => nomatch z), ?_, ?_⟩
  · have := dep_ints ns
    rw [PyData.depth]; omega
  · rw [dlt_list]
    exact hQ _ _ (E.tail.tail.bl _)
theorem de_ltL (hu : X.A.units + 65 < cLine) (ha : DE X a ρ (.ok (.d (.list (LI ns))))) (hb : DE X b ρ (.ok (.d (.list (LI ms))))) : DE X (.Compare a [.Lt] [b] pos) ρ (.ok (.d (.bool (lexlt ns ms)))) := de_cmp (op_ltD hu) ha hb (nomark _) rd_ltL
theorem de_fmR2 (q : Int → Bool) (g : Int → PyData) {pr pr2 : Pos} (v : Str) (jj : Nat) (hc : X.calm = true) (hm : X.mg "range" = none) (ha : DE X a ρ (.ok (.d (.int lo)))) (hb2 : DE X b ρ (.ok (.d (.int hi)))) (hB : -(2 ^ 62) ≤ lo ∧ lo < 2 ^ 62 ∧ -(2 ^ 62) ≤ hi ∧ hi < 2 ^ 62) (hz : (hi - lo).toNat ≤ 100000) (ok : BlkOk X.N X.env.scope scope [(v, jj)])
    (hg : ∀ (s : Shared) (H : Hp) (C : Addr) (cl : List (Str × Addr)) (fp : List Addr), PG (X.blk s H scope (compEnvC scope cl C X.env) fp) tg (gName jj)) (hu : ρ[jj]? = some Sl.u)
    (hif : ∀ x, lo ≤ x → x < hi → ∀ X', Bk X scope X' → DT X' c (ρ.set jj (.d (.int x))) (.ok (q x))) (he : ∀ x, lo ≤ x → x < hi → q x = true → ∀ X', Bk X scope X' → DE X' elt (ρ.set jj (.d (.int x))) (.ok (.d (g x))))
    (hgl : Gl X "range" := by rfl) (hse : starEach [a, b] X.env = [(false, eval a X.env), (false, eval b X.env)] := by rfl) (hse2 : starEach [b] X.env = [(false, eval b X.env)] := by rfl)
    (hs : ∀ x, foldedSetIterable (.Call (.Name "range" pr) [a, b] [] pr2) X.env x = pure x := by intro _; rfl) : DE X (.ListComp elt [⟨tg, .Call (.Name "range" pr) [a, b] [] pr2, [c], 0⟩] scope pos) ρ (.ok (.o (((rngF lo hi).filter q).map g))) := fun W hW Ho Fo σ τ H Q hl E hQ => by
  have hlt : jj < ρ.length := (List.getElem?_eq_some_iff.mp hu).1
  refine tE_of (pe_lc (te := teB X scope elt) (tt := ttB X scope [c]) hc hW.2.2 (pi_range2 hgl hm (pa_cons pe_ (pa_cons pe_ pa_nil hse2) (hse.trans (congrArg ((false, eval a X.env) :: ·) hse2.symm))) hse hse2) ok hg (pts_ (Nat.le_refl 1)) (fun s H C cl fp => ⟨fun pins s' σ H' Q I h => h _ ⟨s, H, C, cl, fp, rfl⟩ pins s' I⟩) hs) ?_
  refine lc_runR (ifs := [c]) (elt := elt) (scope := scope) (F := fmI q g) (lo := lo) (nn := (hi - lo).toNat) (ρt := fun x => ρ.set jj (.d x)) hW (by simpa using hu) hz (fun W hW Ho Fo σ τ H R hl E hR => ha W hW Ho Fo σ τ H _ hl E fun v H1 E1 => hb2 W hW Ho Fo σ _ H1 _ hl E1 fun w H2 E2 => by
    obtain ⟨w', e1, e2⟩ := E2.mid.fget List.mem_cons_self
    cases e1
    cases dp_int e2
    obtain ⟨w', e1, e2⟩ := E2.mid.tail.mid.fget List.mem_cons_self
    cases e1
    cases dp_int e2
    exact ⟨lo, hi, rfl, hB, hR _ E2.mid.tail.mid.tail⟩) (fun i hi => tgw_name hlt) (fun i hi => wk_setu hu) (Nat.le_refl 1) (fun i hi X' hX => ?_) (fun i hi y hy X' hX => ?_) hl E fun v H' E' => hQ v H' ?_
  · have := hif (lo + i) (by omega) (by omega) X' hX
    show DT X' c (ρ.set jj (.d (.int (lo + i)))) (.ok (if q (lo + i) = true then some (g (lo + i)) else none).isSome)
    cases h : q (lo + i) with
    | true => rw [if_pos rfl]; rw [h] at this; exact this
    | false => rw [if_neg Bool.false_ne_true]; rw [h] at this; exact this
  · have hy' : (if q (lo + i) = true then some (g (lo + i)) else none) = some y := hy
    by_cases h : q (lo + i) = true
    · rw [if_pos h] at hy'
      cases hy'
      exact he (lo + i) (by omega) (by omega) h X' hX
    · rw [if_neg h] at hy'; cases hy'
  · rw [rngF_data lo hi _ rfl, fmI_eq] at E'
    exact E'
theorem de_mapR2 (g : Int → PyData) {pr pr2 : Pos} (v : Str) (jj : Nat) (hc : X.calm = true) (hm : X.mg "range" = none) (ha : DE X a ρ (.ok (.d (.int lo)))) (hb2 : DE X b ρ (.ok (.d (.int hi)))) (hB : -(2 ^ 62) ≤ lo ∧ lo < 2 ^ 62 ∧ -(2 ^ 62) ≤ hi ∧ hi < 2 ^ 62) (hz : (hi - lo).toNat ≤ 100000) (ok : BlkOk X.N X.env.scope scope [(v, jj)])
    (hg : ∀ (s : Shared) (H : Hp) (C : Addr) (cl : List (Str × Addr)) (fp : List Addr), PG (X.blk s H scope (compEnvC scope cl C X.env) fp) tg (gName jj)) (hu : ρ[jj]? = some Sl.u)
    (he : ∀ x, lo ≤ x → x < hi → ∀ X', Bk X scope X' → DE X' elt (ρ.set jj (.d (.int x))) (.ok (.d (g x))))
    (hgl : Gl X "range" := by rfl) (hse : starEach [a, b] X.env = [(false, eval a X.env), (false, eval b X.env)] := by rfl) (hse2 : starEach [b] X.env = [(false, eval b X.env)] := by rfl)
    (hs : ∀ x, foldedSetIterable (.Call (.Name "range" pr) [a, b] [] pr2) X.env x = pure x := by intro _; rfl) : DE X (.ListComp elt [⟨tg, .Call (.Name "range" pr) [a, b] [] pr2, [], 0⟩] scope pos) ρ (.ok (.o ((rngF lo hi).map g))) := fun W hW Ho Fo σ τ H Q hl E hQ => by
  have hlt : jj < ρ.length := (List.getElem?_eq_some_iff.mp hu).1
  refine tE_of (pe_lc (te := teB X scope elt) (tt := ttB X scope []) hc hW.2.2 (pi_range2 hgl hm (pa_cons pe_ (pa_cons pe_ pa_nil hse2) (hse.trans (congrArg ((false, eval a X.env) :: ·) hse2.symm))) hse hse2) ok hg (pts_ (by decide)) (fun s H C cl fp => ⟨fun pins s' σ H' Q I h => h _ ⟨s, H, C, cl, fp, rfl⟩ pins s' I⟩) hs) ?_
  refine lc_runR (ifs := []) (elt := elt) (scope := scope) (F := mapI g) (lo := lo) (nn := (hi - lo).toNat) (ρt := fun x => ρ.set jj (.d x)) hW (by simpa using hu) hz (fun W hW Ho Fo σ τ H R hl E hR => ha W hW Ho Fo σ τ H _ hl E fun v H1 E1 => hb2 W hW Ho Fo σ _ H1 _ hl E1 fun w H2 E2 => by
    obtain ⟨w', e1, e2⟩ := E2.mid.fget List.mem_cons_self
    cases e1
    cases dp_int e2
    obtain ⟨w', e1, e2⟩ := E2.mid.tail.mid.fget List.mem_cons_self
    cases e1
    cases dp_int e2
    exact ⟨lo, hi, rfl, hB, hR _ E2.mid.tail.mid.tail⟩) (fun i hi => tgw_name hlt) (fun i hi => wk_setu hu) (by decide) (fun i hi X' hX => (rfl : (some (g (lo + i))).isSome = true)) (fun i hi y hy X' hX => by cases hy; exact he (lo + i) (by omega) (by omega) X' hX) hl E fun v H' E' => hQ v H' ?_
  rw [rngF_data lo hi _ rfl, mapI_eq] at E'
  exact E'
theorem ds_retOI (i : Nat) {xs ys : List PyData} (h : ρ[i]? = some (.o xs)) (e : xs = ys) (hN : X.N[i]? = some n := by rfl) (hv : Vis X.env.scope n := by first | exact Or.inl rfl | exact Or.inr (Or.inl rfl)) (hd : (n == ("__debug__" : Str)) = false := by decide)
    (hcd : (n == ("__classdict__" : Str)) = false := by decide) {p : Pos} : DS X (.Return (some (.Name n p)) pos) ρ (.rt (.o ys)) := e ▸ ds_retO i h hN hv hd hcd
theorem rd_neB {K : Frag} {p q : Bool} : RD K rNe (.d (.bool p)) (.d (.bool q)) (.d (.bool (!decide (p = q)))) := fun Ho Fo L v w H Q E hQ => by
  obtain ⟨v', e1, h1⟩ := E.fget List.mem_cons_self
  obtain ⟨w', e2, h2⟩ := E.fget (List.mem_cons_of_mem _ List.mem_cons_self)
  cases e1; cases e2
  cases dp_bl h1; cases dp_bl h2
  refine ⟨rfl, ?_⟩
  have z : decide (V.bl p = V.bl q) = decide (p = q) := by cases p <;> cases q <;> rfl
  rw [z]
  exact hQ _ _ (E.tail.tail.bl _)
theorem rd_eqB {K : Frag} {p q : Bool} : RD K rEq (.d (.bool p)) (.d (.bool q)) (.d (.bool (decide (p = q)))) := fun Ho Fo L v w H Q E hQ => by
  obtain ⟨v', e1, h1⟩ := E.fget List.mem_cons_self
  obtain ⟨w', e2, h2⟩ := E.fget (List.mem_cons_of_mem _ List.mem_cons_self)
  cases e1; cases e2
  cases dp_bl h1; cases dp_bl h2
  refine ⟨rfl, ?_⟩
  have z : decide (V.bl p = V.bl q) = decide (p = q) := by cases p <;> cases q <;> rfl
  rw [z]
  exact hQ _ _ (E.tail.tail.bl _)
theorem dt_neB {p q : Bool} (ha : DE X a ρ (.ok (.d (.bool p)))) (hb : DE X b ρ (.ok (.d (.bool q)))) : DT X (.Compare a [.NotEq] [b] pos) ρ (.ok (!decide (p = q))) := dt_two op_ne ha hb (nomark _) rd_neB
theorem dt_eqB {p q : Bool} (ha : DE X a ρ (.ok (.d (.bool p)))) (hb : DE X b ρ (.ok (.d (.bool q)))) : DT X (.Compare a [.Eq] [b] pos) ρ (.ok (decide (p = q))) := dt_two op_eq ha hb (nomark _) rd_eqB
theorem de_all {bs : List Bool} {p : Pos} (hc : X.calm = true) (hm : X.mg "all" = none) (ha : DE X e ρ (.ok (.d (.list (LB bs))))) (hg : Gl X "all" := by rfl) (hs : starEach [e] X.env = (false, eval e X.env) :: starEach [] X.env := by rfl) : DE X (.Call (.Name "all" p) [e] [] pos) ρ (.ok (.d (.bool (bs.all id)))) :=
  de_callB (cr_all hc) hm boot_all (da_cons ha da_nil hs) (rc_list fun Ho Fo F L p vs H Q e hF hH hv hQ => by
    rw [dps_bls hv] at hH
    exact ⟨p, bs, rfl, .of hH, hQ _ _ (Env.bl ⟨F, e⟩ _)⟩) hg (by decide) (by decide) hs
end
end DL

namespace DL
open PySem PySem.Spec PyProof.Rows L2
section
variable {X : Cx} {a b c e f o ix : Expr} {es ifs : List Expr} {ρ ρ' ρ1 ρ2 : List Sl} {pos apos cpos pn p p2 p3 q : Pos} {x y z : PyData} {k k1 k2 : Sl} {n m v name : Str} {i j lo hi : Int} {xs ys : List PyData} {ns ms : List Int} {st : Stmt} {sts body rest : List Stmt} {r : Out} {scope : Scope}
theorem ds_item (ii : Nat) {jj : Nat} {sp : Pos} (h : ρ[ii]? = some (.o xs)) (he : DE X e ρ (.ok (.d y))) (hi : DE X ix ρ (.ok (.d (.int i)))) (hj : ixN xs.length i = some jj) (hN : X.N[ii]? = some n := by rfl) (hv : Vis X.env.scope n := by first | exact Or.inl rfl | exact Or.inr (Or.inl rfl)) (hd : (n == ("__debug__" : Str)) = false := by decide)
    (hcd : (n == ("__classdict__" : Str)) = false := by decide)
    (has : ∀ v, assign (.Subscript (.Name n pn) ix sp) X.env v = (do
      let ov ← holding [v] (eval (.Name n pn) X.env)
      let iv ← holding [v, ov] (eval ix X.env)
      standAt sp
      holding [v, ov, iv] (setItem ov iv v)
      release [v, ov, iv] []) := by intro _; rfl)
    (hs : swapsWithSole [.Subscript (.Name n pn) ix sp] e pos.line X.env = pure false := by rfl) (hw : swappedStores [.Subscript (.Name n pn) ix sp] e X.env = pure none := by rfl)
    (h1 : (assignEach [.Subscript (.Name n pn) ix sp] X.env).map (·.2) = [assign (.Subscript (.Name n pn) ix sp) X.env] := by rfl) :
    DS X (.Assign [.Subscript (.Name n pn) ix sp] e pos) ρ (.nx (ρ.set ii (.o (xs.set jj y)))) := fun W hW Ho Fo σ τ H D hl E hQ => by
  refine tS_of (ps_asg pe_ (pg_sub (pe_var hN hv hd hcd) pe_ set_list has) hs hw h1) (he W hW Ho Fo σ τ H _ hl E fun v H1 E1 => ?_)
  obtain ⟨p, vs, g1, g2, g3⟩ := own_at hl h E1
  refine ⟨.ref p, g1, hi W hW Ho Fo σ _ H1 _ hl E1 fun w H2 E2 => ?_⟩
  obtain ⟨w', q1, q2⟩ := E2.fget (List.mem_append_right _ List.mem_cons_self)
  cases q1
  cases dp_int q2
  obtain ⟨p', vs2, k1, k2, k3⟩ := own_at hl h E2
  rw [g1] at k1
  cases k1
  refine ⟨p, vs2, i, jj, rfl, rfl, k2, by rw [k3]; exact hj, hQ _ _ (by rw [List.length_set]; exact hl) ?_⟩
  have E3 := own_mut (xs' := xs.set jj y) (vs' := vs2.set jj v) hl h g1 E2 k2 fun F e hr => by
    obtain ⟨w', q1, q2⟩ := e.ok (Sl.d y, some v) (List.mem_append_right _ (List.mem_cons_of_mem _ List.mem_cons_self))
    cases q1
    exact dps_set q2 jj hr
  exact E3.sub (((List.sublist_cons_self _ _).trans (List.sublist_cons_self _ _)).append_left _)
theorem ds_popE (ii : Nat) {kk : Nat} (h : ρ[ii]? = some (.o xs)) (he : DE X e ρ (.ok (.d (.int i)))) (hk : i = (kk : Int)) (hy : kk < xs.length) (hz : xs.length ≤ 100000) (hN : X.N[ii]? = some n := by rfl) (hv : Vis X.env.scope n := by first | exact Or.inl rfl | exact Or.inr (Or.inl rfl)) (hd : (n == ("__debug__" : Str)) = false := by decide)
    (hcd : (n == ("__classdict__" : Str)) = false := by decide) (hbase : attributeBase (.Name n pn) "pop" X.env (eval (.Name n pn) X.env) = eval (.Name n pn) X.env := by rfl)
    (hfew : ((backTo cpos (starEach (e :: []) X.env)).all (fun x => !x.1) && (backToKw cpos (keywordEach [] X.env)).all (fun x => x.1.isSome)
      && decide ((e :: []).length + ([] : List Keyword).length + (if ([] : List Keyword).isEmpty then 0 else 1) < 30)) = true := by rfl)
    (hline : (apos.endLine == cpos.line) = true := by rfl) (hs : starEach (e :: []) X.env = (false, eval e X.env) :: starEach [] X.env := by rfl) (hplain : (backTo cpos (starEach [] X.env)).any (·.1) = false := by rfl) (hsw : swapsWith (.Call (.Attribute (.Name n pn) "pop" apos) [e] [] cpos) none pos.line X.env = pure false := by rfl) :
    DS X (.Expr (.Call (.Attribute (.Name n pn) "pop" apos) [e] [] cpos) pos) ρ (.nx (ρ.set ii (.o (xs.eraseIdx kk)))) := fun W hW Ho Fo σ τ H D hl E hQ => by
  obtain ⟨p, vs, h1, h2, h3⟩ := own_at hl h E
  refine tS_of (ps_expr (pe_bm PySem.F.plainAttrs_list PySem.F.slot_list_pop PySem.F.type_list_pop mt_popAt (pe_var hN hv hd hcd) (pa_cons pe_ pa_nil hs) hbase hfew hline hs hplain) hsw) ?_
  refine ⟨.ref p, h1, .inl ⟨rfl, _, .of h2⟩, he W hW Ho Fo σ τ H _ hl E fun w H1 E1 => ?_⟩
  obtain ⟨w', q1, q2⟩ := E1.fget (List.mem_append_right _ List.mem_cons_self)
  cases q1
  cases dp_int q2
  obtain ⟨p', vs1, g1, g2, g3⟩ := own_at hl h E1
  rw [h1] at g1
  cases g1
  have hu : vs1[kk]? = some vs1[kk] := List.getElem?_eq_getElem (by omega)
  refine ⟨p, vs1, i, kk, vs1[kk], rfl, rfl, g2, by omega, by omega, ?_, hu, ?_⟩
  · rw [hk]
    unfold seqIndex?
    have z : ¬ ((kk : Int) < 0) := by omega
    simp only [z, if_false, Int.toNat_natCast]
    first
      | (rw [if_pos (by omega)])
      | (simp; omega)
  · refine hQ σ _ (by rw [List.length_set]; exact hl) ?_
    have E2 := own_mut (xs' := xs.eraseIdx kk) (vs' := vs1.eraseIdx kk) hl h h1 E1 g2 fun F e hr => dps_erase kk hr
    exact E2.sub ((List.sublist_cons_self _ _).append_left _)
theorem ds_insertI (ii : Nat) {kk : Nat} {e2 : Expr} (h : ρ[ii]? = some (.o (LI ns))) (he : DE X e ρ (.ok (.d (.int i)))) (he2 : DE X e2 ρ (.ok (.d (.int j)))) (hk : i = (kk : Int)) (hkz : kk ≤ 100000) (hz : ns.length < 100000) (hN : X.N[ii]? = some n := by rfl) (hv : Vis X.env.scope n := by first | exact Or.inl rfl | exact Or.inr (Or.inl rfl)) (hd : (n == ("__debug__" : Str)) = false := by decide)
    (hcd : (n == ("__classdict__" : Str)) = false := by decide) (hbase : attributeBase (.Name n pn) "insert" X.env (eval (.Name n pn) X.env) = eval (.Name n pn) X.env := by rfl)
    (hfew : ((backTo cpos (starEach (e :: [e2]) X.env)).all (fun x => !x.1) && (backToKw cpos (keywordEach [] X.env)).all (fun x => x.1.isSome)
      && decide ((e :: [e2]).length + ([] : List Keyword).length + (if ([] : List Keyword).isEmpty then 0 else 1) < 30)) = true := by rfl)
    (hline : (apos.endLine == cpos.line) = true := by rfl) (hs : starEach (e :: [e2]) X.env = (false, eval e X.env) :: starEach [e2] X.env := by rfl) (hs2 : starEach (e2 :: []) X.env = (false, eval e2 X.env) :: starEach [] X.env := by rfl) (hplain : (backTo cpos (starEach [e2] X.env)).any (·.1) = false := by rfl) (hsw : swapsWith (.Call (.Attribute (.Name n pn) "insert" apos) [e, e2] [] cpos) none pos.line X.env = pure false := by rfl) :
    DS X (.Expr (.Call (.Attribute (.Name n pn) "insert" apos) [e, e2] [] cpos) pos) ρ (.nx (ρ.set ii (.o (LI (ns.take kk ++ [j] ++ ns.drop kk))))) := fun W hW Ho Fo σ τ H D hl E hQ => by
  obtain ⟨p, vs, h1, h2, h3⟩ := own_at hl h E
  refine tS_of (ps_expr (pe_bm PySem.F.plainAttrs_list PySem.F.slot_list_insert PySem.F.type_list_insert mt_insert (pe_var hN hv hd hcd) (pa_cons pe_ (pa_cons pe_ pa_nil hs2) hs) hbase hfew hline hs hplain) hsw) ?_
  refine ⟨.ref p, h1, .inl ⟨rfl, _, .of h2⟩, he W hW Ho Fo σ τ H _ hl E fun w H1 E1 => he2 W hW Ho Fo σ _ H1 _ hl E1 fun w2 H2 E2 => ?_⟩
  obtain ⟨w', q1, q2⟩ := E2.fget (List.mem_append_right _ (List.mem_cons_of_mem _ List.mem_cons_self))
  cases q1
  cases dp_int q2
  obtain ⟨w', q1, q2⟩ := E2.fget (List.mem_append_right _ List.mem_cons_self)
  cases q1
  cases dp_int q2
  obtain ⟨p', vs1, g1, g2, g3⟩ := own_at hl h E2
  rw [h1] at g1
  cases g1
  rw [List.length_map] at g3
  refine ⟨p, vs1, i, .int j, rfl, rfl, g2, by rw [g3]; exact Nat.lt_of_lt_of_le hz (by decide), by omega, by omega, ?_⟩
  refine hQ σ _ (by rw [List.length_set]; exact hl) ?_
  have ei : i.toNat = kk := by omega
  rw [ei]
  have E3 := own_mut (xs' := LI (ns.take kk ++ [j] ++ ns.drop kk)) (vs' := vs1.take kk ++ [.int j] ++ vs1.drop kk) hl h h1 E2 g2 fun F e hr => by
    have := dps_app (dps_app (dps_take kk hr) (.cons (.int j) .nil)) (dps_drop kk hr)
    simpa [LI, List.map_take, List.map_drop] using this
  exact E3.sub (((List.sublist_cons_self _ _).trans (List.sublist_cons_self _ _)).append_left _)
theorem de_intB {qb : Bool} (hm : X.mg "int" = none) (ha : DE X e ρ (.ok (.d (.bool qb)))) (hg : Gl X "int" := by rfl) (hs : starEach [e] X.env = (false, eval e X.env) :: starEach [] X.env := by rfl) : DE X (.Call (.Name "int" p) [e] [] pos) ρ (.ok (.d (.int (if qb then 1 else 0)))) :=
  de_callTy call_int1 hm PyProof.Rows.boot_int (da_cons ha da_nil hs) (rc_one fun Ho Fo L v H Q E hQ => by
    obtain ⟨w, e1, h1⟩ := E.fget List.mem_cons_self
    cases e1
    cases dp_bl h1
    exact .inr ⟨qb, rfl, hQ _ _ (E.tail.int _)⟩) hg (by decide) (by decide) hs
theorem ds_itemI (ii : Nat) {kk : Nat} {sp : Pos} (h : ρ[ii]? = some (.o (LI ns))) (he : DE X e ρ (.ok (.d (.int j)))) (hi : DE X ix ρ (.ok (.d (.int i)))) (hk : i = (kk : Int)) (hy : kk < ns.length) (hN : X.N[ii]? = some n := by rfl) (hv : Vis X.env.scope n := by first | exact Or.inl rfl | exact Or.inr (Or.inl rfl)) (hd : (n == ("__debug__" : Str)) = false := by decide)
    (hcd : (n == ("__classdict__" : Str)) = false := by decide)
    (has : ∀ v, assign (.Subscript (.Name n pn) ix sp) X.env v = (do
      let ov ← holding [v] (eval (.Name n pn) X.env)
      let iv ← holding [v, ov] (eval ix X.env)
      standAt sp
      holding [v, ov, iv] (setItem ov iv v)
      release [v, ov, iv] []) := by intro _; rfl)
    (hs : swapsWithSole [.Subscript (.Name n pn) ix sp] e pos.line X.env = pure false := by rfl) (hw : swappedStores [.Subscript (.Name n pn) ix sp] e X.env = pure none := by rfl)
    (h1 : (assignEach [.Subscript (.Name n pn) ix sp] X.env).map (·.2) = [assign (.Subscript (.Name n pn) ix sp) X.env] := by rfl) :
    DS X (.Assign [.Subscript (.Name n pn) ix sp] e pos) ρ (.nx (ρ.set ii (.o (LI (ns.set kk j))))) := by
  have := ds_item (jj := kk) ii h he hi (by unfold ixN; rw [List.length_map, if_pos (by omega), if_pos (by omega), hk]; rfl) hN hv hd hcd has hs hw h1
  have e : (LI ns).set kk (.int j) = LI (ns.set kk j) := by simp [LI]
  rw [e] at this
  exact this
end
end DL

namespace DL
open PySem PySem.Spec PyProof.Rows L2
abbrev LS (us : List Str) : List PyData := us.map PyData.str
theorem dps_strs {F : Hp} : ∀ {vs : List V} {us : List Str}, RpAll F vs (LS us) → vs = us.map V.str
  | _, [], h => by cases h; rfl
  | _, n :: ns, h => by
    cases h with
    | cons h t => rw [dp_str h, dps_strs t]; rfl
theorem strs_dps {F : Hp} : ∀ (us : List Str), RpAll F (us.map V.str) (LS us)
  | [] => .nil
  | n :: ns => .cons (.str n) (strs_dps ns)
section
variable {X : Cx} {a b c e f o elt tg iter : Expr} {es ifs : List Expr} {ρ ρ' ρ1 ρ2 : List Sl} {pos apos cpos p p2 p3 q : Pos} {x y z : PyData} {k k1 k2 : Sl} {n m v name : Str} {i j : Int} {u w : Str} {us : List Str} {xs ys : List PyData} {ns : List Int} {st : Stmt} {sts body rest : List Stmt} {r : Out} {scope : Scope}
theorem de_strI (hm : X.mg "str" = none) (ha : DE X e ρ (.ok (.d (.int i)))) (hz : i.natAbs.log2 < 1920) (hg : Gl X "str" := by rfl) (hs : starEach [e] X.env = (false, eval e X.env) :: starEach [] X.env := by rfl) : DE X (.Call (.Name "str" p) [e] [] pos) ρ (.ok (.d (.str (toString i)))) :=
  de_callTy call_str_int hm PyProof.Rows.boot_str (da_cons ha da_nil hs) (rc_one fun Ho Fo L v H Q E hQ => by
    obtain ⟨w', e1, h1⟩ := E.fget List.mem_cons_self
    cases e1
    cases dp_int h1
    exact ⟨i, rfl, hz, hQ _ _ (E.tail.str _)⟩) hg (by decide) (by decide) hs
theorem de_intS (hm : X.mg "int" = none) (ha : DE X e ρ (.ok (.d (.str u)))) (hi : PySem.intText? u = some i) (hz : u.length ≤ 640) (hg : Gl X "int" := by rfl) (hs : starEach [e] X.env = (false, eval e X.env) :: starEach [] X.env := by rfl) : DE X (.Call (.Name "int" p) [e] [] pos) ρ (.ok (.d (.int i))) :=
  de_callTy call_int_str hm PyProof.Rows.boot_int (da_cons ha da_nil hs) (rc_one fun Ho Fo L v H Q E hQ => by
    obtain ⟨w', e1, h1⟩ := E.fget List.mem_cons_self
    cases e1
    cases dp_str h1
    exact ⟨u, i, rfl, hi, hz, hQ _ _ (E.tail.int _)⟩) hg (by decide) (by decide) hs
theorem de_lenS (hm : X.mg "len" = none) (ha : DE X e ρ (.ok (.d (.str u)))) (hz : u.length ≤ 100000) (hg : Gl X "len" := by rfl) (hs : starEach [e] X.env = (false, eval e X.env) :: starEach [] X.env := by rfl) : DE X (.Call (.Name "len" p) [e] [] pos) ρ (.ok (.d (.int u.length))) :=
  de_callB call_len_str hm PySem.boot_len (da_cons ha da_nil hs) (rc_one fun Ho Fo L v H Q E hQ => by
    obtain ⟨w', e1, h1⟩ := E.fget List.mem_cons_self
    cases e1
    cases dp_str h1
    exact ⟨u, rfl, Nat.le_trans hz (by decide), hQ _ _ (E.tail.int _)⟩) hg (by decide) (by decide) hs
theorem de_addS (ha : DE X a ρ (.ok (.d (.str u)))) (hb : DE X b ρ (.ok (.d (.str w)))) (hz : u.length + w.length ≤ 100000) : DE X (.BinOp a .Add b pos) ρ (.ok (.d (.str (u ++ w)))) := de_op op_add_str ha hb fun Ho Fo L v v2 H Q E hQ => by
  obtain ⟨v', e1, h1⟩ := E.fget List.mem_cons_self
  obtain ⟨w', e2, h2⟩ := E.fget (List.mem_cons_of_mem _ List.mem_cons_self)
  cases e1; cases e2
  cases dp_str h1; cases dp_str h2
  exact ⟨u, w, rfl, rfl, Nat.le_trans hz (by decide), hQ _ _ (E.tail.tail.str _)⟩
theorem de_ixS {c0 : Nat} (ha : DE X a ρ (.ok (.d (.str u)))) (hb : DE X b ρ (.ok (.d (.int i)))) (hz : u.length ≤ 100000) (h : atI u.cps.toList i = some c0) (hs : PlainIx b := by exact fun _ _ => rfl) : DE X (.Subscript a b pos) ρ (.ok (.d (.str ⟨#[c0]⟩))) := de_sub ix_str ha hb (fun Ho Fo L v v2 H Q E hQ => by
  obtain ⟨v', e1, h1⟩ := E.fget List.mem_cons_self
  obtain ⟨w', e2, h2⟩ := E.fget (List.mem_cons_of_mem _ List.mem_cons_self)
  cases e1; cases e2
  cases dp_str h1; cases dp_int h2
  exact ⟨u, i, c0, rfl, rfl, Nat.le_trans hz (by decide), h, hQ _ _ (E.tail.tail.str _)⟩) hs
theorem rd_eqS {K : Frag} : RD K rEq (.d (.str u)) (.d (.str w)) (.d (.bool (decide (u = w)))) := fun Ho Fo L v v2 H Q E hQ => by
  obtain ⟨v', e1, h1⟩ := E.fget List.mem_cons_self
  obtain ⟨w', e2, h2⟩ := E.fget (List.mem_cons_of_mem _ List.mem_cons_self)
  cases e1; cases e2
  cases dp_str h1; cases dp_str h2
  refine ⟨rfl, ?_⟩
  have q : decide (V.str u = V.str w) = decide (u = w) := decide_eq_decide.mpr ⟨fun h => V.str.inj h, fun h => by rw [h]⟩
  rw [q]
  exact hQ _ _ (E.tail.tail.bl _)
theorem rd_neS {K : Frag} : RD K rNe (.d (.str u)) (.d (.str w)) (.d (.bool (!decide (u = w)))) := fun Ho Fo L v v2 H Q E hQ => by
  obtain ⟨v', e1, h1⟩ := E.fget List.mem_cons_self
  obtain ⟨w', e2, h2⟩ := E.fget (List.mem_cons_of_mem _ List.mem_cons_self)
  cases e1; cases e2
  cases dp_str h1; cases dp_str h2
  refine ⟨rfl, ?_⟩
  have q : decide (V.str u = V.str w) = decide (u = w) := decide_eq_decide.mpr ⟨fun h => V.str.inj h, fun h => by rw [h]⟩
  rw [q]
  exact hQ _ _ (E.tail.tail.bl _)
theorem dt_eqS (ha : DE X a ρ (.ok (.d (.str u)))) (hb : DE X b ρ (.ok (.d (.str w)))) : DT X (.Compare a [.Eq] [b] pos) ρ (.ok (decide (u = w))) := dt_two op_eq ha hb (nomark _) rd_eqS
theorem dt_neS (ha : DE X a ρ (.ok (.d (.str u)))) (hb : DE X b ρ (.ok (.d (.str w)))) : DT X (.Compare a [.NotEq] [b] pos) ρ (.ok (!decide (u = w))) := dt_two op_ne ha hb (nomark _) rd_neS
theorem de_eqS (ha : DE X a ρ (.ok (.d (.str u)))) (hb : DE X b ρ (.ok (.d (.str w)))) : DE X (.Compare a [.Eq] [b] pos) ρ (.ok (.d (.bool (decide (u = w))))) := de_cmp op_eq ha hb (nomark _) rd_eqS
theorem rd_notInS {K : Frag} {c0 : Nat} : RD K (fun x y H Q => ∃ (c : Nat) (z : Str), x = .str ⟨#[c]⟩ ∧ y = .str z ∧ Q (.bl (!decide (c ∈ z.cps.toList))) H) (.d (.str ⟨#[c0]⟩)) (.d (.str w)) (.d (.bool (!decide (c0 ∈ w.cps.toList)))) := fun Ho Fo L v v2 H Q E hQ => by
  obtain ⟨v', e1, h1⟩ := E.fget List.mem_cons_self
  obtain ⟨w', e2, h2⟩ := E.fget (List.mem_cons_of_mem _ List.mem_cons_self)
  cases e1; cases e2
  cases dp_str h1; cases dp_str h2
  exact ⟨c0, w, rfl, rfl, hQ _ _ (E.tail.tail.bl _)⟩
theorem dt_notInS {c0 : Nat} (ha : DE X a ρ (.ok (.d (.str ⟨#[c0]⟩)))) (hb : DE X b ρ (.ok (.d (.str w)))) (hm : behindInMarks .NotIn b = false := by rfl) : DT X (.Compare a [.NotIn] [b] pos) ρ (.ok (!decide (c0 ∈ w.cps.toList))) := dt_two op_notIn_sign ha hb hm rd_notInS
theorem de_slFS {pp : Pos} {lo : Expr} (he : DE X e ρ (.ok (.d (.str u)))) (hl' : DE X lo ρ (.ok (.d (.int i)))) (hz : u.length ≤ 100000) : DE X (.Subscript e (.Slice (some lo) none none pp) pos) ρ (.ok (.d (.str (cutS u (some i) none)))) := fun W hW Ho Fo σ τ H Q hl E hQ =>
  tE_of (pe_slice sl_str pe_ (po_some pe_) po_none) (he W hW Ho Fo σ τ H _ hl E fun v H1 E1 => hl' W hW Ho Fo σ _ H1 _ hl E1 fun w H2 E2 => by
    obtain ⟨w', e1, h1⟩ := E2.mid.fget List.mem_cons_self
    cases e1
    refine ⟨i, dp_int h1, ?_⟩
    obtain ⟨w', e1, h1⟩ := E2.mid.tail.mid.fget List.mem_cons_self
    cases e1
    cases dp_str h1
    exact ⟨u, rfl, Nat.le_trans hz (by decide), hQ _ _ (E2.mid.tail.mid.tail.str _).unmid⟩)
theorem de_slTS {pp : Pos} {lo : Expr} (he : DE X e ρ (.ok (.d (.str u)))) (hl' : DE X lo ρ (.ok (.d (.int i)))) (hz : u.length ≤ 100000) : DE X (.Subscript e (.Slice none (some lo) none pp) pos) ρ (.ok (.d (.str (cutS u none (some i))))) := fun W hW Ho Fo σ τ H Q hl E hQ =>
  tE_of (pe_slice sl_str pe_ po_none (po_some pe_)) (he W hW Ho Fo σ τ H _ hl E fun v H1 E1 => hl' W hW Ho Fo σ _ H1 _ hl E1 fun w H2 E2 => by
    obtain ⟨w', e1, h1⟩ := E2.mid.fget List.mem_cons_self
    cases e1
    refine ⟨i, dp_int h1, ?_⟩
    obtain ⟨w', e1, h1⟩ := E2.mid.tail.mid.fget List.mem_cons_self
    cases e1
    cases dp_str h1
    exact ⟨u, rfl, Nat.le_trans hz (by decide), hQ _ _ (E2.mid.tail.mid.tail.str _).unmid⟩)
theorem de_split (ho : DE X o ρ (.ok (.d (.str u)))) (ha : DE X e ρ (.ok (.d (.str w)))) (hw : (w.length == 0) = false) (hz : u.length ≤ 100000)
    (hbase : attributeBase o "split" X.env (eval o X.env) = eval o X.env := by rfl)
    (hfew : ((backTo cpos (starEach (e :: []) X.env)).all (fun x => !x.1) && (backToKw cpos (keywordEach [] X.env)).all (fun x => x.1.isSome)
      && decide ((e :: []).length + ([] : List Keyword).length + (if ([] : List Keyword).isEmpty then 0 else 1) < 30)) = true := by rfl)
    (hline : (apos.endLine == cpos.line) = true := by rfl) (hs : starEach (e :: []) X.env = (false, eval e X.env) :: starEach [] X.env := by rfl) (hplain : (backTo cpos (starEach [] X.env)).any (·.1) = false := by rfl) :
    DE X (.Call (.Attribute o "split" apos) [e] [] cpos) ρ (.ok (.o (LS (Txt.split u w)))) :=
  de_meth PySem.F.plainAttrs_str PySem.F.slot_str_split PySem.F.type_str_split mt_split ho (da_cons ha da_nil hs) (fun _ _ _ _ _ _ E => ty_str E) (fun Ho Fo L v ws H Q hl E hQ => by
    match ws, hl with
    | [y], _ =>
      obtain ⟨F, E⟩ := E
      obtain ⟨w', e1, h1⟩ := E.ok _ List.mem_cons_self
      obtain ⟨w2, e2, h2⟩ := E.ok (Sl.d (.str w), some y) (List.mem_cons_of_mem _ List.mem_cons_self)
      cases e1
      cases e2
      cases dp_str h1
      cases dp_str h2
      refine ⟨u, w, rfl, rfl, hw, Nat.le_trans (Nat.add_le_add_right hz 2) (by decide), fun p hp => hQ _ _ (env_new E.tail.tail hp (strs_dps _))⟩) hbase hfew hline hs hplain
theorem de_join (ho : DE X o ρ (.ok (.d (.str u)))) (ha : DE X e ρ (.ok (.d (.list (LS us))))) (hz : (us.map (·.length)).sum + us.length * u.length ≤ 16777216)
    (hbase : attributeBase o "join" X.env (eval o X.env) = eval o X.env := by rfl)
    (hfew : ((backTo cpos (starEach (e :: []) X.env)).all (fun x => !x.1) && (backToKw cpos (keywordEach [] X.env)).all (fun x => x.1.isSome)
      && decide ((e :: []).length + ([] : List Keyword).length + (if ([] : List Keyword).isEmpty then 0 else 1) < 30)) = true := by rfl)
    (hline : (apos.endLine == cpos.line) = true := by rfl) (hs : starEach (e :: []) X.env = (false, eval e X.env) :: starEach [] X.env := by rfl) (hplain : (backTo cpos (starEach [] X.env)).any (·.1) = false := by rfl) :
    DE X (.Call (.Attribute o "join" apos) [e] [] cpos) ρ (.ok (.d (.str (Txt.join u us)))) :=
  de_meth PySem.F.plainAttrs_str PySem.F.slot_str_join PySem.F.type_str_join mt_join ho (da_cons ha da_nil hs) (fun _ _ _ _ _ _ E => ty_str E) (fun Ho Fo L v ws H Q hl E hQ => by
    match ws, hl with
    | [y], _ =>
      obtain ⟨F, E⟩ := E
      obtain ⟨w', e1, h1⟩ := E.ok _ List.mem_cons_self
      obtain ⟨w2, e2, h2⟩ := E.ok (Sl.d (.list (LS us)), some y) (List.mem_cons_of_mem _ List.mem_cons_self)
      cases e1
      cases e2
      cases dp_str h1
      cases h2 with
      | lst hs hd =>
        rw [dps_strs hd] at hs
        exact ⟨u, _, us, rfl, rfl, .inl (.of (E.inn _ _ hs)), hz, hQ _ _ (Env.str (L := L) ⟨F, E.tail.tail⟩ _)⟩) hbase hfew hline hs hplain
theorem ds_forS {tg iter : Expr} {body : List Stmt} {g : TG} {ρs ρt : Nat → List Sl} {m : Nat} {out : Out} (hc : X.calm = true) (hi : DE X iter ρ (.ok (.d (.str u)))) (hg : PG X tg g) (h0 : Wk ρ (ρs 0))
    (ht : ∀ i c, i ≤ m → u.cps[i]? = some c → TGo X.K g (ρs i) (.str ⟨#[c]⟩) (ρt i)) (hb : ∀ i c, i < m → u.cps[i]? = some c → Goes X body (ρt i) (ρs (i + 1))) (hf : Fin X body ρs ρt u.cps.size m out)
    (hs : ∀ x, foldedSetIterable iter X.env x = pure x := by intro _; rfl) : DS X (.For tg iter body [] pos) ρ out := fun W hW Ho Fo σ τ H D hl E hQ => by
  refine tS_of (ps_for hW.2.1 hc (pi_str pe_) hg pss_ hs) (hi W hW Ho Fo σ τ H _ hl E fun v H1 E1 => ?_)
  obtain ⟨w', e1, e2⟩ := E1.mid.fget List.mem_cons_self
  cases e1
  cases dp_str e2
  have hml := hf.le
  refine ⟨u, rfl, fun i q σ H => q = u.cps.size - i ∧ i ≤ m ∧ σ.length = (ρs i).length ∧ Env X.K Ho Fo (cells (ρs i) σ ++ τ) H, ⟨_, rfl, Nat.zero_le _, hl.trans h0.len, env_wk h0 hl E1.mid.tail⟩, fun i q σ' H' ⟨_, him, hl', E'⟩ => ?_⟩
  by_cases hlt : i < u.cps.size
  · refine .inr ⟨hlt, fun σ' H' => σ'.length = (ρs (i + 1)).length ∧ i < m ∧ Env X.K Ho Fo (cells (ρs (i + 1)) σ' ++ τ) H', fun σ2 H2 ⟨g1, g2, g3⟩ => ⟨_, by omega, rfl, by omega, g1, g3⟩, fun w H2 hy => ?_⟩
    obtain ⟨e2, c0, hc0, hy⟩ := hy
    subst e2 hy
    refine ht i c0 him hc0 Ho Fo σ' _ H2 _ _ hl' (E'.str _).unmid fun σ3 H3 hl3 E4 => ?_
    by_cases hi : i < m
    · rcases hb i c0 hi hc0 with hb | hb
      · exact hb W hW Ho Fo σ3 _ H3 _ hl3 E4 fun σ4 H4 hl4 E5 => ⟨hl4, hi, E5⟩
      · exact hb W hW Ho Fo σ3 _ H3 _ hl3 E4 fun σ4 H4 hl4 E5 => ⟨hl4, hi, E5⟩
    · have : i = m := by omega
      subst this
      exact fin_turn hW (List.Sublist.refl _) hQ hf hlt hl3 E4 _ _
  · have : i = u.cps.size := by omega
    subst this
    have e : m = u.cps.size := by omega
    subst e
    refine .inl ⟨Nat.le_refl _, ?_⟩
    cases hf with
    | all => exact hQ _ _ hl' E'
    | brk hm h => omega
    | rt hm h => omega
    | ex hm h => omega
end
end DL

namespace DL
open PySem PySem.Spec PyProof.Rows L2
def prodN (a : Int) : Nat → Int
  | 0 => 1
  | n + 1 => prodN a n * (a + n)
def prod (a b : Int) : Int := prodN a (b + 1 - a).toNat
abbrev fact (n : Nat) : Int := prodN 1 n
theorem prod_fact (n : Nat) : prod 1 (n : Int) = fact n := by
  unfold prod
  have : ((n : Int) + 1 - 1).toNat = n := by omega
  rw [this]
theorem prod_fact' {i : Int} (h : 0 ≤ i) : prod 1 i = fact i.toNat := by
  have : i = ((i.toNat : Nat) : Int) := by omega
  rw [this, prod_fact]
  congr 1
theorem fact_succ (n : Nat) : fact (n + 1) = fact n * ((n : Int) + 1) := by
  show prodN 1 n * (1 + (n : Int)) = _
  rw [Int.add_comm]
theorem fact_pos : ∀ n, 0 < fact n
  | 0 => by decide
  | n + 1 => by
    rw [fact_succ]
    exact Int.mul_pos (fact_pos n) (by omega)
theorem fact_le6 {n : Nat} (h : n ≤ 6) : fact n ≤ 720 := by
  match n, h with
  | 0, _ => decide
  | 1, _ => decide
  | 2, _ => decide
  | 3, _ => decide
  | 4, _ => decide
  | 5, _ => decide
  | 6, _ => decide
  | n + 7, h => omega
theorem fact_mono (n : Nat) : fact n ≤ fact (n + 1) := by
  rw [fact_succ]
  have := fact_pos n
  calc fact n = fact n * 1 := by omega
    _ ≤ fact n * ((n : Int) + 1) := Int.mul_le_mul_of_nonneg_left (by omega) (Int.le_of_lt this)
def cell (ns : List Int) (k : Int) : Int := if k < (ns.length : Int) then ns.getD k.toNat 0 else (ns.headD 0 % 65521 * 48271 + k * 30103) % 65521
def nxt (s : Int) : Int := (s * 48271 % 2147483647 * (s * 48271 % 2147483647) + 12345) % 2147483647
theorem nxt_nn (s : Int) : 0 ≤ nxt s ∧ nxt s < 2147483647 := by unfold nxt; omega
def mostL (size : Int) : Int := if size = 2 then 3 else if size = 3 then 8 else if size = 4 then 27 else 124
def packL (ns : List Int) (k : Int) : Int × Int :=
  (2 + cell ns k % 4, if cell ns k / 4 % 2 = 0 then mostL (2 + cell ns k % 4) else 2 + cell ns k % 4 + cell ns (k + 1) % (mostL (2 + cell ns k % 4) - (2 + cell ns k % 4) + 1))
theorem mostL_ge {s : Int} (h : 2 ≤ s ∧ s ≤ 5) : s < mostL s ∧ mostL s ≤ 124 := by
  unfold mostL
  split
  · omega
  · split
    · omega
    · split <;> omega
theorem packL_ok (ns : List Int) (k : Int) : 2 ≤ (packL ns k).1 ∧ (packL ns k).1 ≤ 5 ∧ (packL ns k).1 ≤ (packL ns k).2 ∧ (packL ns k).2 ≤ mostL (packL ns k).1 := by
  have h : 2 ≤ 2 + cell ns k % 4 ∧ 2 + cell ns k % 4 ≤ 5 := by omega
  have m := mostL_ge h
  refine ⟨h.1, h.2, ?_, ?_⟩
  · show 2 + cell ns k % 4 ≤ (packL ns k).2
    unfold packL
    simp only
    split
    · omega
    · have := Int.emod_nonneg (cell ns (k + 1)) (b := mostL (2 + cell ns k % 4) - (2 + cell ns k % 4) + 1) (by omega)
      omega
  · show (packL ns k).2 ≤ mostL (2 + cell ns k % 4)
    unfold packL
    simp only
    split
    · omega
    · have := Int.emod_lt_of_pos (cell ns (k + 1)) (b := mostL (2 + cell ns k % 4) - (2 + cell ns k % 4) + 1) (by omega)
      omega
theorem most_fact {s : Int} (h : 2 ≤ s ∧ s ≤ 5) : mostL s = prod 1 s + s - 1 := by
  have : s = 2 ∨ s = 3 ∨ s = 4 ∨ s = 5 := by omega
  rcases this with rfl | rfl | rfl | rfl <;> decide
def rngI (n : Int) : List Int := (List.range n.toNat).map Int.ofNat
def dr (ns : List Int) (k cards : Int) : Nat → Int × List Int × List Int
  | 0 => (nxt (cell ns k * 1000003 % 2147483647 + 17), rngI cards, [])
  | j + 1 => (nxt (dr ns k cards j).1, (dr ns k cards j).2.1.eraseIdx ((nxt (dr ns k cards j).1 / 64 + cell ns (k + 1 + j)) % ((dr ns k cards j).2.1.length : Int)).toNat,
      (dr ns k cards j).2.2 ++ [(dr ns k cards j).2.1.getD ((nxt (dr ns k cards j).1 / 64 + cell ns (k + 1 + j)) % ((dr ns k cards j).2.1.length : Int)).toNat 0])
def draw (ns : List Int) (k many cards : Int) : List Int := (dr ns k cards many.toNat).2.2
theorem rngI_len (n : Int) : (rngI n).length = n.toNat := by simp [rngI]
theorem mem_rngI {n x : Int} : x ∈ rngI n ↔ 0 ≤ x ∧ x < n := by
  unfold rngI
  rw [List.mem_map]
  constructor
  · rintro ⟨a, h, rfl⟩
    rw [List.mem_range] at h
    show 0 ≤ (a : Int) ∧ (a : Int) < n
    omega
  · intro h
    exact ⟨x.toNat, by rw [List.mem_range]; omega, by show ((x.toNat : Nat) : Int) = x; omega⟩
theorem nodup_rngI (n : Int) : (rngI n).Nodup := by
  unfold rngI
  refine List.Pairwise.map _ (fun a b h e => h ?_) List.nodup_range
  exact Int.ofNat.inj e
theorem erase_perm : ∀ {l : List Int} {i : Nat}, i < l.length → (l.eraseIdx i ++ [l.getD i 0]).Perm l
  | [], i, h => by simp at h
  | a :: l, 0, _ => by
    show (l ++ [a]).Perm (a :: l)
    exact List.perm_append_comm
  | a :: l, i + 1, h => by
    show (a :: (l.eraseIdx i ++ [l.getD i 0])).Perm (a :: l)
    exact (erase_perm (by simpa using h)).cons a
theorem dr_ok (ns : List Int) (k cards : Int) : ∀ j : Nat, (j : Int) ≤ cards → (dr ns k cards j).2.1.length = cards.toNat - j ∧ (dr ns k cards j).2.2.length = j ∧ ((dr ns k cards j).2.1 ++ (dr ns k cards j).2.2).Perm (rngI cards)
  | 0, _ => ⟨rngI_len _, rfl, by show (rngI cards ++ []).Perm _; rw [List.append_nil]⟩
  | j + 1, h => by
    obtain ⟨h1, h2, h3⟩ := dr_ok ns k cards j (by omega)
    have hp : 0 < (dr ns k cards j).2.1.length := by omega
    have hi : ((nxt (dr ns k cards j).1 / 64 + cell ns (k + 1 + j)) % ((dr ns k cards j).2.1.length : Int)).toNat < (dr ns k cards j).2.1.length := by
      have e1 := Int.emod_nonneg (nxt (dr ns k cards j).1 / 64 + cell ns (k + 1 + j)) (b := ((dr ns k cards j).2.1.length : Int)) (by omega)
      have e2 := Int.emod_lt_of_pos (nxt (dr ns k cards j).1 / 64 + cell ns (k + 1 + j)) (b := ((dr ns k cards j).2.1.length : Int)) (by omega)
      omega
    refine ⟨?_, ?_, ?_⟩
    · show ((dr ns k cards j).2.1.eraseIdx _).length = _
      rw [List.length_eraseIdx_of_lt hi]
      omega
    · show ((dr ns k cards j).2.2 ++ [_]).length = _
      rw [List.length_append, h2]
      rfl
    · show ((dr ns k cards j).2.1.eraseIdx _ ++ ((dr ns k cards j).2.2 ++ [_])).Perm _
      refine List.Perm.trans ?_ h3
      refine List.Perm.trans ?_ ((erase_perm hi).append_right _)
      rw [List.append_assoc]
      exact List.Perm.append_left _ List.perm_append_comm
theorem draw_ok (ns : List Int) (k : Int) {many cards : Int} (h0 : 0 ≤ many) (h : many ≤ cards) : (draw ns k many cards).length = many.toNat ∧ (draw ns k many cards).Nodup ∧ ∀ x ∈ draw ns k many cards, 0 ≤ x ∧ x < cards := by
  obtain ⟨h1, h2, h3⟩ := dr_ok ns k cards many.toNat (by omega)
  have nd := h3.nodup_iff.mpr (nodup_rngI cards)
  exact ⟨h2, (List.nodup_append.mp nd).2.1, fun x hx => mem_rngI.mp (h3.mem_iff.mp (List.mem_append_right _ hx))⟩
def oaS (left : List Int) (n : Int) : Nat → List Int × Int × List Int
  | 0 => (left, n, [])
  | i + 1 => ((oaS left n i).1.eraseIdx ((oaS left n i).2.1 / fact ((oaS left n i).1.length - 1)).toNat, (oaS left n i).2.1 % fact ((oaS left n i).1.length - 1),
      (oaS left n i).2.2 ++ [(oaS left n i).1.getD ((oaS left n i).2.1 / fact ((oaS left n i).1.length - 1)).toNat 0])
def ordAt (left : List Int) (n : Int) : List Int := (oaS left n left.length).2.2
theorem div_fact {n : Int} {m : Nat} (h0 : 0 ≤ n) (h : n < fact (m + 1)) : 0 ≤ n / fact m ∧ n / fact m < (m : Int) + 1 := by
  refine ⟨Int.ediv_nonneg h0 (Int.le_of_lt (fact_pos m)), ?_⟩
  rw [fact_succ] at h
  exact Int.ediv_lt_of_lt_mul (fact_pos m) (by rw [Int.mul_comm]; exact h)
theorem oaS_ok {left : List Int} {n : Int} (h0 : 0 ≤ n) (h : n < fact left.length) : ∀ i, i ≤ left.length → (oaS left n i).1.length = left.length - i ∧ (oaS left n i).2.2.length = i ∧ 0 ≤ (oaS left n i).2.1 ∧ (oaS left n i).2.1 < fact (left.length - i)
  | 0, _ => ⟨rfl, rfl, h0, h⟩
  | i + 1, hi => by
    obtain ⟨h1, h2, h3, h4⟩ := oaS_ok h0 h i (by omega)
    have e : left.length - i = (left.length - (i + 1)) + 1 := by omega
    have d := div_fact h3 (e ▸ h4)
    have e1 : (oaS left n i).1.length - 1 = left.length - (i + 1) := by omega
    refine ⟨?_, ?_, ?_, ?_⟩
    · show ((oaS left n i).1.eraseIdx _).length = _
      rw [List.length_eraseIdx_of_lt (by rw [e1]; omega)]
      omega
    · show ((oaS left n i).2.2 ++ [_]).length = _
      rw [List.length_append, h2]; rfl
    · show 0 ≤ (oaS left n i).2.1 % fact _
      exact Int.emod_nonneg _ (by have := fact_pos ((oaS left n i).1.length - 1); omega)
    · show (oaS left n i).2.1 % fact _ < _
      rw [e1]
      exact Int.emod_lt_of_pos _ (fact_pos _)
theorem oaS_ix {left : List Int} {n : Int} (h0 : 0 ≤ n) (h : n < fact left.length) {i : Nat} (hi : i < left.length) : 0 ≤ (oaS left n i).2.1 / fact ((oaS left n i).1.length - 1) ∧ ((oaS left n i).2.1 / fact ((oaS left n i).1.length - 1)).toNat < (oaS left n i).1.length := by
  obtain ⟨h1, h2, h3, h4⟩ := oaS_ok h0 h i (by omega)
  have e : left.length - i = (left.length - (i + 1)) + 1 := by omega
  have d := div_fact h3 (e ▸ h4)
  have e1 : (oaS left n i).1.length - 1 = left.length - (i + 1) := by omega
  rw [e1]
  exact ⟨d.1, by omega⟩
theorem oaS_nodup {left : List Int} {n : Int} (h : left.Nodup) : ∀ i, (oaS left n i).1.Nodup
  | 0 => h
  | i + 1 => (oaS_nodup h i).sublist (List.eraseIdx_sublist _ _)
theorem filter_erase : ∀ {l : List Int} {i : Nat}, l.Nodup → i < l.length → l.filter (fun x => !decide (x = l.getD i 0)) = l.eraseIdx i
  | [], i, _, h => by simp at h
  | a :: l, 0, nd, _ => by
    rw [List.nodup_cons] at nd
    show (a :: l).filter (fun x => !decide (x = a)) = l
    rw [List.filter_cons_of_neg (by simp), List.filter_eq_self]
    intro x hx
    have : x ≠ a := fun e => nd.1 (e ▸ hx)
    simp [this]
  | a :: l, i + 1, nd, h => by
    have nd' := nd
    rw [List.nodup_cons] at nd
    have hi : i < l.length := by simpa using h
    have hm : l.getD i 0 ∈ l := by
      rw [List.getD_eq_getElem?_getD, List.getElem?_eq_getElem hi]
      exact List.getElem_mem hi
    have ne : a ≠ l.getD i 0 := fun e => nd.1 (e ▸ hm)
    show (a :: l).filter (fun x => !decide (x = l.getD i 0)) = a :: l.eraseIdx i
    rw [List.filter_cons_of_pos (by show (!decide (a = l.getD i 0)) = true; rw [decide_eq_false ne]; rfl), filter_erase nd.2 hi]
end DL

namespace DL
open PySem PySem.Spec PyProof.Rows L2
def Pack (s c : Int) : Prop := 2 ≤ s ∧ s ≤ 5 ∧ s ≤ c ∧ c ≤ prod 1 s + s - 1
def Good (m c : Int) (ns : List Int) : Prop := (ns.length : Int) = m ∧ ns.Nodup ∧ ∀ x ∈ ns, 0 ≤ x ∧ x < c
instance (m c : Int) (ns : List Int) : Decidable (Good m c ns) := by unfold Good; infer_instance
def IsHand (m c : Int) (ns : List Int) : Prop := (ns.length : Int) = m ∧ ns.Pairwise (· < ·) ∧ ∀ x ∈ ns, 0 ≤ x ∧ x < c
instance (m c : Int) (ns : List Int) : Decidable (IsHand m c ns) := by unfold IsHand; infer_instance
instance (s c : Int) : Decidable (Pack s c) := by unfold Pack; infer_instance
theorem lt_nodup {ns : List Int} (h : ns.Pairwise (· < ·)) : ns.Nodup := h.imp fun h e => absurd h (by omega)
theorem lt_srt {ns : List Int} (h : ns.Pairwise (· < ·)) : ns = srt ns := srt_is (List.Perm.refl _) (h.imp fun h => Int.le_of_lt h)
theorem le_lt {ns : List Int} (h : ns.Pairwise (· ≤ ·)) (nd : ns.Nodup) : ns.Pairwise (· < ·) := (h.and nd).imp fun h => by
  have h1 := h.1
  have h2 := h.2
  exact Int.lt_iff_le_and_ne.mpr ⟨h1, h2⟩
theorem srt_lt {ns : List Int} (nd : ns.Nodup) : (srt ns).Pairwise (· < ·) := le_lt (srt_ord ns) ((srt_perm ns).nodup_iff.mpr nd)
theorem hand_good {m c : Int} {ns : List Int} (h : IsHand m c ns) : Good m c ns := ⟨h.1, lt_nodup h.2.1, h.2.2⟩
theorem hand_srt {m c : Int} {ns : List Int} (h : IsHand m c ns) : ns = srt ns := lt_srt h.2.1
theorem hand_of {m c : Int} {ns : List Int} (h : Good m c ns) (e : ns = srt ns) : IsHand m c ns := ⟨h.1, e ▸ srt_lt h.2.1, h.2.2⟩
theorem srt_hand {m c : Int} {ns : List Int} (h : Good m c ns) : IsHand m c (srt ns) := ⟨by rw [srt_len]; exact h.1, srt_lt h.2.1, fun x hx => h.2.2 x ((srt_perm ns).mem_iff.mp hx)⟩
theorem pack_of {ns : List Int} {k : Int} : Pack (packL ns k).1 (packL ns k).2 := by
  obtain ⟨h1, h2, h3, h4⟩ := packL_ok ns k
  exact ⟨h1, h2, h3, by rw [← most_fact ⟨h1, h2⟩]; exact h4⟩
theorem pack_le {s c : Int} (h : Pack s c) : c ≤ 124 := by
  obtain ⟨h1, h2, h3, h4⟩ := h
  rw [← most_fact ⟨h1, h2⟩] at h4
  have := mostL_ge ⟨h1, h2⟩
  omega
theorem draw_good (ns : List Int) (k : Int) {many cards : Int} (h0 : 0 ≤ many) (h : many ≤ cards) : Good many cards (draw ns k many cards) := by
  obtain ⟨h1, h2, h3⟩ := draw_ok ns k h0 h
  exact ⟨by omega, h2, h3⟩
def plc (hand : List Int) : Nat := (hand.sum % (hand.length : Int)).toNat
def held (hand : List Int) : Int := hand.getD (plc hand) 0
def num (hand : List Int) : Int := (held hand - plc hand) / (hand.length : Int)
def lrow (hand : List Int) : List Int := ordAt (hand.eraseIdx (plc hand)) (num hand)
theorem gap_lo : ∀ {l : List Int} {lo : Int} {i : Nat}, l.Pairwise (· < ·) → (∀ x ∈ l, lo ≤ x) → i < l.length → lo + i ≤ l.getD i 0
  | [], _, _, _, _, h => by simp at h
  | a :: l, lo, 0, _, hm, _ => by
    have := hm a List.mem_cons_self
    show lo + 0 ≤ a
    omega
  | a :: l, lo, i + 1, hp, hm, h => by
    rw [List.pairwise_cons] at hp
    have h1 := hm a List.mem_cons_self
    have := gap_lo (lo := lo + 1) (i := i) hp.2 (fun x hx => by have := hp.1 x hx; omega) (by simpa using h)
    show lo + ((i + 1 : Nat) : Int) ≤ l.getD i 0
    omega
theorem gap_hi : ∀ {l : List Int} {hi : Int} {i : Nat}, l.Pairwise (· < ·) → (∀ x ∈ l, x < hi) → i < l.length → l.getD i 0 + ((l.length - i : Nat) : Int) ≤ hi
  | [], _, _, _, _, h => by simp at h
  | [a], hi, 0, _, hm, _ => by
    have := hm a List.mem_cons_self
    show a + ((1 : Nat) : Int) ≤ hi
    omega
  | a :: b :: l, hi, 0, hp, hm, _ => by
    rw [List.pairwise_cons] at hp
    have h1 := hp.1 b List.mem_cons_self
    have := gap_hi (hi := hi) (i := 0) hp.2 (fun x hx => hm x (List.mem_cons_of_mem _ hx)) (by simp)
    have e : (b :: l).getD 0 0 = b := rfl
    rw [e] at this
    show a + ((l.length + 1 + 1 - 0 : Nat) : Int) ≤ hi
    have e2 : (b :: l).length = l.length + 1 := rfl
    rw [e2] at this
    omega
  | a :: l, hi, i + 1, hp, hm, h => by
    rw [List.pairwise_cons] at hp
    have := gap_hi (hi := hi) (i := i) hp.2 (fun x hx => hm x (List.mem_cons_of_mem _ hx)) (by simpa using h)
    show l.getD i 0 + ((l.length + 1 - (i + 1) : Nat) : Int) ≤ hi
    have e : l.length + 1 - (i + 1) = l.length - i := by omega
    rw [e]
    exact this
theorem plc_lt {hand : List Int} (h : 0 < hand.length) : plc hand < hand.length ∧ ((plc hand : Nat) : Int) = hand.sum % (hand.length : Int) := by
  have h1 := Int.emod_nonneg hand.sum (b := (hand.length : Int)) (by omega)
  have h2 := Int.emod_lt_of_pos hand.sum (b := (hand.length : Int)) (by omega)
  unfold plc
  omega
def LayOk (hand : List Int) : Prop := 2 ≤ hand.length ∧ hand.length ≤ 5 ∧ hand.Pairwise (· < ·) ∧ 0 ≤ num hand ∧ num hand < fact (hand.length - 1)
theorem lay_ok {s c : Int} {hand : List Int} (hp : Pack s c) (h : IsHand s c hand) : LayOk hand := by
  obtain ⟨h1, h2, h3, h4⟩ := hp
  obtain ⟨g1, g2, g3⟩ := h
  have hl : 0 < hand.length := by omega
  obtain ⟨p1, p2⟩ := plc_lt hl
  have lo := gap_lo (lo := 0) g2 (fun x hx => (g3 x hx).1) p1
  have hi := gap_hi (hi := c) g2 (fun x hx => (g3 x hx).2) p1
  have fs : prod 1 s = fact (hand.length - 1) * (hand.length : Int) := by
    rw [prod_fact' (by omega), show s.toNat = (hand.length - 1) + 1 by omega, fact_succ]
    congr 1
    omega
  rw [fs] at h4
  have hn : 0 ≤ held hand - plc hand ∧ held hand - plc hand < fact (hand.length - 1) * (hand.length : Int) := by
    unfold held
    omega
  exact ⟨by omega, by omega, g2, Int.ediv_nonneg hn.1 (by omega), Int.ediv_lt_of_lt_mul (by omega) hn.2⟩
theorem lay_filter {hand : List Int} (h : LayOk hand) : hand.filter (fun x => !decide (x = held hand)) = hand.eraseIdx (plc hand) := filter_erase (lt_nodup h.2.2.1) (plc_lt (by have := h.1; omega)).1
theorem lay_others {hand : List Int} (h : LayOk hand) : (hand.eraseIdx (plc hand)).length = hand.length - 1 ∧ srt (hand.eraseIdx (plc hand)) = hand.eraseIdx (plc hand) ∧ (hand.eraseIdx (plc hand)).Nodup := by
  have p := h.2.2.1.sublist (List.eraseIdx_sublist hand (plc hand))
  exact ⟨List.length_eraseIdx_of_lt (plc_lt (by have := h.1; omega)).1, (lt_srt p).symm, lt_nodup p⟩
theorem ord_len {left : List Int} {n : Int} (h : 0 ≤ n ∧ n < fact left.length) : (ordAt left n).length = left.length := (oaS_ok h.1 h.2 left.length (Nat.le_refl _)).2.1
theorem lrow_len {hand : List Int} (h : LayOk hand) : (lrow hand).length = hand.length - 1 := by
  have o := (lay_others h).1
  unfold lrow
  rw [ord_len (by rw [o]; exact h.2.2.2), o]
theorem sIx_of {n d k : Nat} (h : k ≤ n) : HT.sIx n d (some (k : Int)) = k := by
  rw [HT.sIx_nat]
  omega
theorem cutD_len (xs : List PyData) (lo hi : Option Int) : (cutD xs lo hi).length ≤ xs.length := by
  unfold cutD
  rw [List.length_take, List.length_drop]
  omega
theorem cut_to (ns : List Int) {k : Nat} (h : k ≤ ns.length) : cutD (LI ns) none (some (k : Int)) = LI (ns.take k) := by
  unfold cutD
  rw [List.length_map, sIx_of h, HT.sIx_none]
  show ((LI ns).drop 0).take (k - 0) = _
  rw [List.drop_zero, Nat.sub_zero, ← List.map_take]
theorem cut_from (ns : List Int) {k : Nat} (h : k ≤ ns.length) : cutD (LI ns) (some (k : Int)) none = LI (ns.drop k) := by
  unfold cutD
  rw [List.length_map, sIx_of h, HT.sIx_none, ← List.map_drop, List.take_of_length_le (by simp)]
theorem cut_from' {ns : List Int} {j : Int} {k : Nat} (e : j = (k : Int)) (h : k ≤ ns.length) : cutD (LI ns) (some j) none = LI (ns.drop k) := by rw [e]; exact cut_from ns h
theorem cut_to' {ns : List Int} {j : Int} {k : Nat} (e : j = (k : Int)) (h : k ≤ ns.length) : cutD (LI ns) none (some j) = LI (ns.take k) := by rw [e]; exact cut_to ns h
theorem cut_both (ns : List Int) {k : Nat} (h : k < ns.length) : LI (ns.take k) ++ LI (ns.drop (k + 1)) = LI (ns.eraseIdx k) := by
  rw [← List.map_append, List.eraseIdx_eq_take_drop_succ]
end DL

namespace DL
open PySem PySem.Spec PyProof.Rows L2 TL
abbrev tlS (u : Str) : List Nat := u.cps.toList
def WordOk (l : List Nat) : Prop := 1 ≤ l.length ∧ l.length ≤ 3 ∧ (l.length ≤ 1 ∨ l.headD 0 ≠ 48) ∧ ∀ c ∈ l, 48 ≤ c ∧ c ≤ 57
instance (l : List Nat) : Decidable (WordOk l) := by unfold WordOk; infer_instance
def wdv (l : List Nat) : Int := ((NumText.digitsVal l : Nat) : Int)
def wd (n : Int) : Str := Str.ofString (toString n)
def blank : Str := " "
def textOf (ns : List Int) : Str := Txt.join blank (ns.map wd)
def Few (ns : List Int) : Prop := 1 ≤ ns.length ∧ ns.length ≤ 6 ∧ ∀ x ∈ ns, 0 ≤ x ∧ x ≤ 999
instance (ns : List Int) : Decidable (Few ns) := by unfold Few; infer_instance
theorem tl_wd {n : Int} (h : 0 ≤ n) : tlS (wd n) = numL n.toNat := by
  have e : n = ((n.toNat : Nat) : Int) := by omega
  unfold wd
  rw [e]
  exact tl_num n.toNat
theorem nums_ok : (List.range 1000).all (fun k => decide (WordOk (numL k))) = true := by decide +kernel
theorem num_ok {k : Nat} (h : k < 1000) : WordOk (numL k) := by
  have := List.all_eq_true.mp nums_ok k (List.mem_range.mpr h)
  exact of_decide_eq_true this
theorem wd_ok {n : Int} (h : 0 ≤ n ∧ n ≤ 999) : WordOk (tlS (wd n)) ∧ wdv (tlS (wd n)) = n := by
  rw [tl_wd h.1]
  refine ⟨num_ok (by omega), ?_⟩
  unfold wdv
  rw [numL_val]
  omega
theorem int_word {u : Str} (h : WordOk (tlS u)) : PySem.intText? u = some (wdv (tlS u)) := by
  have hl := len_tl u
  refine intText_digits (x := u) h.2.2.2 (fun e => ?_) ?_
  · have h1 := h.1
    have e2 : tlS u = [] := e
    rw [e2] at h1
    simp at h1
  · have := h.2.1
    rw [hl]
    show (tlS u).length ≤ 4300
    omega
theorem wd_len {n : Int} (h : 0 ≤ n ∧ n ≤ 999) : (wd n).length ≤ 3 := by
  rw [len_tl]
  exact (wd_ok h).1.2.1
theorem tl_blank : tl blank = [32] := by decide +kernel
theorem split_text {ns : List Int} (h : ∀ x ∈ ns, 0 ≤ x ∧ x ≤ 999) (h0 : ns ≠ []) : Txt.split (textOf ns) blank = ns.map wd := by
  refine split_join (s := 32) (S := []) tl_blank (by decide +kernel) (fun e => h0 (List.map_eq_nil_iff.mp e)) fun p hp => ?_
  obtain ⟨n, hn, rfl⟩ := List.mem_map.mp hp
  intro hm
  have := (wd_ok (h n hn)).1.2.2.2 32 hm
  omega
theorem sum_le {us : List Str} {b : Nat} (h : ∀ u ∈ us, u.length ≤ b) : (us.map (·.length)).sum ≤ us.length * b := by
  induction us with
  | nil => simp
  | cons u us ih =>
    rw [List.map_cons, List.sum_cons, List.length_cons, Nat.succ_mul]
    have h1 := h u List.mem_cons_self
    have h2 := ih fun x hx => h x (List.mem_cons_of_mem _ hx)
    omega
def dueT (ns : List Int) : Nat → Str
  | 0 => ""
  | i + 1 => dueT ns i ++ blank ++ wd (ns.getD i 0)
theorem tl_due (ns : List Int) : ∀ i, i ≤ ns.length → tl (dueT ns i) = (ns.take i).flatMap fun n => 32 :: tl (wd n)
  | 0, _ => by
    show tl (dueT ns 0) = []
    unfold dueT
    decide +kernel
  | i + 1, h => by
    have hi : i < ns.length := by omega
    show tl (dueT ns i ++ blank ++ wd (ns.getD i 0)) = _
    rw [tl_append, tl_append, tl_due ns i (by omega), tl_blank, List.take_add_one, List.getElem?_eq_getElem hi, List.flatMap_append, List.getD_eq_getElem?_getD, List.getElem?_eq_getElem hi, List.append_assoc]
    simp
theorem join_flat : ∀ {ps : List (List Nat)}, ps ≠ [] → (ps.flatMap fun p => 32 :: p).drop 1 = joinL [32] ps
  | [], h => absurd rfl h
  | [p], _ => by simp [joinL]
  | p :: q :: r, _ => by
    have ih := join_flat (ps := q :: r) (by simp)
    show (32 :: p ++ ((q :: r).flatMap fun p => 32 :: p)).drop 1 = p ++ ([32] ++ joinL [32] (q :: r))
    rw [← ih]
    rfl
theorem getDm {S : List Int} {i : Nat} (h : i < S.length) : S.getD i 0 ∈ S := by
  rw [List.getD_eq_getElem?_getD, List.getElem?_eq_getElem h]
  exact List.getElem_mem h
theorem due_len {ns : List Int} (h : ∀ x ∈ ns, 0 ≤ x ∧ x ≤ 999) : ∀ i, i ≤ ns.length → (dueT ns i).length ≤ 4 * i
  | 0, _ => by
    have e : (dueT ns 0).length = 0 := by unfold dueT; decide +kernel
    omega
  | i + 1, hi => by
    have ih := due_len h i (by omega)
    have hw := wd_len (h _ (getDm (i := i) (by omega)))
    have e := congrArg List.length (show tl (dueT ns (i + 1)) = tl (dueT ns i) ++ tl blank ++ tl (wd (ns.getD i 0)) by show tl (dueT ns i ++ blank ++ wd (ns.getD i 0)) = _; rw [tl_append, tl_append])
    rw [List.length_append, List.length_append, ← len_tl, ← len_tl, ← len_tl, ← len_tl] at e
    have eb : blank.length = 1 := by decide +kernel
    omega
theorem tl_cut (u : Str) (lo hi : Option Int) : tl (cutS u lo hi) = ((tl u).drop (HT.sIx u.length 0 lo)).take (HT.sIx u.length u.length hi - HT.sIx u.length 0 lo) := rfl
theorem due_cut {ns : List Int} (h0 : ns ≠ []) : cutS (dueT ns ns.length) (some 1) none = textOf ns := by
  refine ext_tl ?_
  have hl : 1 ≤ (dueT ns ns.length).length := by
    rw [len_tl, tl_due ns _ (Nat.le_refl _), List.take_length]
    cases ns with
    | nil => exact absurd rfl h0
    | cons a l => simp
  have e1 : HT.sIx (dueT ns ns.length).length 0 (some (1 : Int)) = 1 := by
    have := HT.sIx_nat (dueT ns ns.length).length 0 1
    have e : ((1 : Nat) : Int) = 1 := rfl
    rw [e] at this
    rw [this]
    omega
  rw [tl_cut, e1, HT.sIx_none, List.take_of_length_le (by rw [List.length_drop, ← len_tl]; omega)]
  rw [tl_due ns _ (Nat.le_refl _), List.take_length]
  unfold textOf
  rw [join_eq, tl_join, tl_blank, ← join_flat (by simpa using h0), List.map_map, List.flatMap_map]
  rfl
theorem text_len {ns : List Int} (h : Few ns) : (textOf ns).length ≤ 100 := by
  have h0 : ns ≠ [] := by
    have := h.1
    intro e
    rw [e] at this
    simp at this
  rw [← due_cut h0, len_tl, tl_cut, List.length_take, List.length_drop, ← len_tl]
  have := due_len h.2.2 ns.length (Nat.le_refl _)
  have := h.2.1
  omega
theorem first_bad {P : Nat → Prop} [DecidablePred P] : ∀ {l : List Nat}, ¬(∀ c ∈ l, P c) → ∃ m, m < l.length ∧ (∀ c, l[m]? = some c → ¬P c) ∧ ∀ i c, i < m → l[i]? = some c → P c
  | [], h => absurd (fun c hc => absurd hc List.not_mem_nil) h
  | a :: l, h => by
    by_cases ha : P a
    · obtain ⟨m, h1, h2, h3⟩ := first_bad (P := P) (l := l) fun z => h fun c hc => by
        rcases List.mem_cons.mp hc with rfl | hc
        · exact ha
        · exact z c hc
      refine ⟨m + 1, by simpa using h1, fun c hc => h2 c (by simpa using hc), fun i c hi hc => ?_⟩
      cases i with
      | zero => simp at hc; subst hc; exact ha
      | succ i => exact h3 i c (by omega) (by simpa using hc)
    · exact ⟨0, by simp, fun c hc => by simp at hc; subst hc; exact ha, fun i c hi => by omega⟩
theorem figs (c : Nat) : c ∈ (Str.ofString "0123456789").cps.toList ↔ 48 ≤ c ∧ c ≤ 57 := by
  have e : (Str.ofString "0123456789").cps.toList = [48, 49, 50, 51, 52, 53, 54, 55, 56, 57] := by decide +kernel
  rw [e]
  simp
  omega
theorem sign0 (c : Nat) : (⟨#[c]⟩ : Str) = Str.ofString "0" ↔ c = 48 := by
  have e : Str.ofString "0" = ⟨#[48]⟩ := by decide +kernel
  rw [e]
  constructor
  · intro h
    have := congrArg (fun u : Str => u.cps.toList) h
    simpa using this
  · intro h
    rw [h]
section
variable {X : Cx} {a b c e f o elt tg iter : Expr} {es ifs : List Expr} {ρ ρ' ρ1 ρ2 : List Sl} {pos : Pos} {us : List Str} {scope : Scope}
def mapT (g : Str → PyData) (x : PyData) : Option PyData := match x with
  | .str c => some (g c)
  | _ => none
theorem mapT_eq (g : Str → PyData) : ∀ us : List Str, (LS us).filterMap (mapT g) = us.map g
  | [] => rfl
  | n :: ns => by
    show (PyData.str n :: LS ns).filterMap (mapT g) = _
    rw [List.filterMap_cons_some (f := mapT g) (b := g n) rfl, mapT_eq g ns]; rfl
theorem de_mapS (g : Str → PyData) (v : Str) (jj : Nat) (hc : X.calm = true) (hi : DE X iter ρ (.ok (.d (.list (LS us))))) (ok : BlkOk X.N X.env.scope scope [(v, jj)]) (hg : ∀ (s : Shared) (H : Hp) (C : Addr) (cl : List (Str × Addr)) (fp : List Addr), PG (X.blk s H scope (compEnvC scope cl C X.env) fp) tg (gName jj))
    (hu : ρ[jj]? = some Sl.u) (hz : us.length ≤ 100000) (he : ∀ x ∈ us, ∀ X', Bk X scope X' → DE X' elt (ρ.set jj (.d (.str x))) (.ok (.d (g x))))
    (hs : ∀ x, foldedSetIterable iter X.env x = pure x := by intro _; rfl) : DE X (.ListComp elt [⟨tg, iter, [], 0⟩] scope pos) ρ (.ok (.o (us.map g))) := by
  have hlt : jj < ρ.length := (List.getElem?_eq_some_iff.mp hu).1
  rw [← mapT_eq]
  refine de_lc (F := mapT g) [(v, jj)] (fun x => ρ.set jj (.d x)) hc hi ok hg (by simpa using hu) (by simpa using hz) (fun x hx => tgw_name hlt) (fun x hx => wk_setu hu) (fun x hx X' hX => ?_) (fun x hx y hy X' hX => ?_) (by decide) hs
  · obtain ⟨c', hm, rfl⟩ := List.mem_map.mp hx
    exact (rfl : (some (g c')).isSome = true)
  · obtain ⟨c', hm, rfl⟩ := List.mem_map.mp hx
    cases hy
    exact he c' hm X' hX
end
end DL

namespace PySem
namespace PXN
open HandSPX
section
variable {M : Model} {A : Around} {E : Value → Shared → Prop} {s : Shared} {Z : Obj → Prop} {base : Heap} {env : Env} {outer l : List Env} {L C e : Addr}
theorem look_otherZ {Q : Unit → Shared → Prop} (hZ : Steady1 Z) (hne : C ≠ L) (hfr : A.frames = some (env :: outer)) (hf : env.frame = some L) (hh : HeldZ base (env :: outer) e Z C s.heap)
    (hQ : ∀ h', HeldZ base (env :: outer) e Z L h' → s.heap.UpToSlots h' → Q () { s with heap := h' }) : wpAny M A (noteFrame (.ref e) env) Q E s := by
  obtain ⟨hkb, hen, hl, oe, vs, T, oT, ts, he, hz, hd, h1, hnT, hTe, hT, hdT, h3⟩ := hh
  unfold noteFrame
  simp only [hf]
  refine wpAny_bind (wpAny_field he hd h1 ?_)
  rw [if_pos (show (Value.ref T != Value.none) = true from by simp)]
  refine wpAny_bind (wpAny_field hT hdT h3 ?_)
  rw [if_neg (show ¬ ((rawInt C == rawInt L) = true) from by
    intro q
    have q : rawInt C = rawInt L := by simpa using q
    exact hne (Int.ofNat.inj (by simpa [rawInt] using q)))]
  refine wpAny_bind (wpAny_setField hT hdT (Array.getElem?_eq_some_iff.mp h3).1 ?_)
  have other : ∀ b, b ≠ T → (s.heap.update T (Obj.mapFields (·.setIfInBounds 3 Value.none))).get? b = s.heap.get? b := fun b hb => Heap.get?_update_other _ _ (Ne.symm hb)
  have noRecord : ∀ b o, s.heap.get? b = some o → (∀ vs, o.data ≠ .fields vs) → b ≠ T := fun b o hb hnf q => by
    rw [q, hT] at hb; injection hb with hb; subst hb; exact hnf ts hdT
  refine wpAny_entryZ hZ hfr (hl.of_keeps fun b o hb hnf => ⟨o, (other b (noRecord b o hb hnf)).trans hb, rfl⟩) hf ((other e (Ne.symm hTe)).trans he)
    (fun b o hbo => (other b fun q => by rw [q, hnT] at hbo; cases hbo).trans (hkb b o hbo)) hen hd (Array.getElem?_eq_some_iff.mp h1).1 hz fun h' hN => ?_
  obtain ⟨x1, x2, x3, x4⟩ := hN
  exact hQ h' ⟨x1, hen, x2, x3⟩ fun b o hb hnf => x4 b o ((other b (noRecord b o hb hnf)).trans hb) hnf
end
end PXN
end PySem
namespace DL
open PySem PySem.Spec PyProof.Rows L2
abbrev ceXe (X : Cx) (ce : PySem.Env) : Value → Shared → Prop := notedBy (model X.prog X.w) X.A ce (CompFails (model X.prog X.w) X.A X.xe ce)
theorem fails_held {X : Cx} {W : WX} {pins : List (Addr × Obj)} {σ σ' : St} {H3 H' : Hp} {s3 sI s1 : Shared} {B : Heap} {a : Addr} {cls : Value} {d : Option Addr} {fp : List Addr} {scope : Scope} {ce : PySem.Env} {pins' : List (Addr × Obj)} (tk : L2N.Takes X W) (hs : X.stack = X.env :: X.outer) (hf : X.env.frame = some X.env.locals)
    (I3 : Inv X pins σ H3 s3) (f3 : ∀ b ∈ fp, FpOk X pins H3 b ∧ b < s3.heap.objs.size) (cL : ce.locals = s3.heap.objs.size) (cF : ce.frame = X.env.frame) {E0 : Value → Shared → Prop}
    (I6 : Inv ((X.blk s3 H3 scope ce fp).wish E0) pins' σ' H' sI) (nb : ∀ b o, sI.heap.get? b = some o → b ∉ frs X.stack → B.get? b = some o) (up : sI.heap.UpToSlots s1.heap)
    (hh : HandSPX.HeldZ B X.stack a (L2N.Zn cls d) X.env.locals s1.heap) (na : H' a = none) (os : s1.os = sI.os) (ag : AllBare s1.gens) (w : W cls d σ H') : CompFails (model X.prog X.w) X.A X.xe ce (.ref a) s1 := by
  have I7 : Inv X pins σ H' sI := I3.call' (ch := fp) I6.os I6.base I6.hok I6.bare fun b hb => ⟨(f3 b hb).1.2.2.2.1, (f3 b hb).1.2.1, (f3 b hb).1.2.2.2.2.1, (f3 b hb).1.2.2.2.2.2⟩
  have nC : H' ce.locals = none := I6.free
  obtain ⟨m, hn, _⟩ := I6.loc
  have hn : sI.heap.Ns ce.locals m := hn
  have hn1 : s1.heap.Ns ce.locals m := hn.upToSlots up
  refine ⟨m, hn1, fun h2 m2 hn2 sb => ?_⟩
  obtain ⟨b1, b0, fr, oe, vs, T, oT, ts, he, hz, hd, h1, hnT, hTe, hT, hdT, h3⟩ := hh
  have rec_ne : ∀ b o vs, s1.heap.get? b = some o → o.data = .fields vs → b ≠ ce.locals := fun b o vs e1 e2 q => by
    obtain ⟨o', es, ep, ho, hd', _⟩ := hn1
    rw [q, ho] at e1; cases e1
    rw [hd'] at e2; cases e2
  have naC := rec_ne a oe vs he hd
  have nTC := rec_ne T oT ts hT hdT
  have he2 : h2.get? a = some oe := (sb.2 a naC).trans he
  have hT2 : h2.get? T = some oT := (sb.2 T nTC).trans hT
  have hidB : ∀ b o, (PySem.W.hideAll B [ce.locals]).get? b = some o → B.get? b = some o ∧ b ≠ ce.locals := fun b o e => ⟨PySem.W.of_hideAll _ e, fun q => by
    rw [q, PySem.W.hideAll_none [ce.locals] (by simp)] at e; cases e⟩
  have hidn : ∀ b, B.get? b = none → (PySem.W.hideAll B [ce.locals]).get? b = none := fun b e => by
    cases q : (PySem.W.hideAll B [ce.locals]).get? b with
    | none => rfl
    | some o => rw [(hidB b o q).1] at e; cases e
  have st2 : (PySem.W.hideAll B [ce.locals]).StaysIn h2 := fun b o e => (sb.2 b (hidB b o e).2).trans (b1 b o (hidB b o e).1)
  have fr2 : h2.FunFrames (PySem.W.hideAll B [ce.locals]) X.stack := funFrames_none (Heap.FunFrames.sameBut sb hn2 fr) fun b hb => hidn b (fr.mem hb).1
  unfold PySem.passOn
  refine wpAny_bind (wpAny_field he2 hd h1 ?_)
  rw [if_neg (show ¬ ((Value.ref T == Value.none) = true) from by simp)]
  refine wpAny_bind (HandSPX.setFlight_anyZ (base := PySem.W.hideAll B [ce.locals]) (l := X.stack) (Z := L2N.Zn cls d) (fl := rawInt X.env.locals) st2 fr2 ⟨oe, vs, T, oT, ts, he2, hz, hd, h1, hidn T hnT, hTe, hT2, hdT, h3⟩ fun h4 k1 k2 k3 k4 => wpAny_throw ?_)
  rw [cF, hf] at k3
  have nC' : H' s3.heap.objs.size = none := by rw [← cL]; exact nC
  obtain ⟨f0, f1, f2, f4, f5, f6⟩ := I3.fpOk (H' := H') (Nat.le_refl _) nC'
  refine tk _ _ ⟨a, PySem.W.hideAll B [ce.locals], { sI with heap := PySem.W.hideAll sI.heap [ce.locals], toks := sI.toks }, pins, σ, H', cls, d, rfl, I7.turned (it := ce.locals) (fun b o hb e => PySem.W.hideAll_get _ e (by simpa using hb)) nC (by rw [cL]; exact f1) (by rw [cL]; exact f4) (by rw [cL]; exact f5) (by rw [cL]; exact f6),
    fun b o e hb => ?_, fun b o e hnf => ?_, .inr (.inr ⟨k1, hidn a b0, k2, k3⟩), na, os, ag, w⟩
  · have hbC : b ≠ ce.locals := fun q => by
      rw [q] at e
      have : (PySem.W.hideAll sI.heap [ce.locals]).get? ce.locals = none := PySem.W.hideAll_none _ (by simp)
      rw [this] at e; cases e
    exact PySem.W.hideAll_get _ (nb b o (PySem.W.of_hideAll _ e) hb) (by simpa using hbC)
  · have hbC : b ≠ ce.locals := fun q => by
      rw [q] at e
      have : (PySem.W.hideAll sI.heap [ce.locals]).get? ce.locals = none := PySem.W.hideAll_none _ (by simp)
      rw [this] at e; cases e
    obtain ⟨sl, e1⟩ := up b o (PySem.W.of_hideAll _ e) hnf
    obtain ⟨sl2, e2⟩ := k4 b _ ((sb.2 b hbC).trans e1) hnf
    exact ⟨sl2, e2⟩
theorem takes_blk {X : Cx} {W : WX} {pins : List (Addr × Obj)} {σ : St} {H3 : Hp} {s3 : Shared} {fp : List Addr} {scope : Scope} {ce : PySem.Env} (tk : L2N.Takes X W) (hs : X.stack = X.env :: X.outer) (hf : X.env.frame = some X.env.locals)
    (I3 : Inv X pins σ H3 s3) (f3 : ∀ b ∈ fp, FpOk X pins H3 b ∧ b < s3.heap.objs.size) (cL : ce.locals = s3.heap.objs.size) (cF : ce.frame = X.env.frame) :
    L2N.Takes ((X.blk s3 H3 scope ce fp).wish (ceXe X ce)) (fun c d _ H => W c d σ H) := by
  rintro u s' ⟨a, B, sI, pins', σ', H', cls, d, rfl, I6, nb, up, sky, na, os, ag, w⟩
  have hfr : X.A.frames = some (X.env :: X.outer) := by rw [I3.ok.frames, hs]
  show wpAny (model X.prog X.w) X.A (noteFrame (.ref a) ce) (fun _ s'' => CompFails (model X.prog X.w) X.A X.xe ce (.ref a) s'') _ s'
  rw [noteFrame_env (cenv := ce) (env := X.env) _ cF]
  have key : ∀ h1, HandSPX.HeldZ B (X.env :: X.outer) a (L2N.Zn cls d) X.env.locals h1 → s'.heap.UpToSlots h1 → CompFails (model X.prog X.w) X.A X.xe ce (.ref a) { s' with heap := h1 } := fun h1 hh up1 =>
    fails_held (s1 := { s' with heap := h1 }) tk hs hf I3 f3 cL cF I6 nb (up.trans up1) (by rw [hs]; exact hh) na os ag w
  have sky : Sky B X.stack a (L2N.Zn cls d) ce.locals s'.heap := sky
  rw [hs] at sky
  rcases sky with ⟨hB, hn, hl, oe, vs, he, hz, hd, h1⟩ | fl | hh
  · exact PXN.look_newZ L2N.Zn.steady hfr hl hf he hB hn hd h1 hz key
  · exact PXN.looks_onZ L2N.Zn.steady hfr hf fl key
  · exact PXN.look_otherZ L2N.Zn.steady (by rw [cL]; exact Nat.ne_of_gt I3.lt) hfr hf hh key
def BkX (X : Cx) (scope : Scope) (X' : Cx) : Prop := ∃ s H C cl fp E, X' = (X.blk s H scope (compEnvC scope cl C X.env) fp).wish E
theorem lcX_run {X : Cx} {W : WX} {pins : List (Addr × Obj)} {s : Shared} {σ : St} {H : Hp} {Q : VK} {elt tg iter : Expr} {scope : Scope} {own : List (Str × Nat)} {pos : Pos} {wi : TI} {g : TG} {te : TE} (hW : Exc X W) (hs' : X.stack = X.env :: X.outer) (hf : X.env.frame = some X.env.locals)
    (hc : X.calm = true) (I : Inv X pins σ H s) (hi : PI X tg iter wi) (ok : BlkOk X.N X.env.scope scope own)
    (hg : ∀ (s : Shared) (H : Hp) (C : Addr) (cl : List (Str × Addr)) (fp : List Addr), PG (X.blk s H scope (compEnvC scope cl C X.env) fp) tg g)
    (he : ∀ X', BkX X scope X' → L2N.Takes X' (fun c d _ H => W c d σ H) → PassesOwn (model X'.prog X'.w) X'.A X'.env X'.xe → PE X' elt te) (hs : ∀ x, foldedSetIterable iter X.env x = pure x)
    (h : tLc wi g tYes te (own.map (·.2)) σ H Q) : wpAny (model X.prog X.w) X.A (eval (.ListComp elt [⟨tg, iter, [], 0⟩] scope pos) X.env) (EP X pins σ Q) X.xe s := by
  rw [eval_ListComp]
  have hfree : ∀ y ∈ scope.names, y.2 = .free → ∃ c, X.env.cells.lookup y.1 = some c := fun y hy e => by
    rcases ok.free y hy e with k | k
    · exact I.ok.has _ (.inl k)
    · exact I.ok.has _ (.inr k)
  refine comprehension_at (use := none) rfl hs (closure_ok hfree) ok.kind (fun y hy e => by rw [ok.uniq y hy, e])
    (thn (hi.run pins s σ H _ I h) fun xv s1 hx => thn hx fun itv s2 h2 => ?_)
  obtain ⟨it, fp, tn, J, H2, e, I2, T, st2, f2, q⟩ := h2
  subst e
  refine wpAny_newObj_type (newEnv_comp ?_) (by show 0 ≤ sizeLine; decide)
  generalize hD : s2.heap.objs.size = D
  have hDn : H2 D = none := I2.hok.fresh (Nat.le_of_eq hD)
  obtain ⟨Wt, ⟨m0, w0⟩, turn⟩ := q D hDn
  generalize hs3 : ({ s2 with heap := s2.heap.push { cls := .type "list", data := .seq ([] : List Value).toArray } } : Shared) = s3
  have I3 : Inv X pins σ (upd H2 D (.lst [])) s3 := by
    rw [← hs3]
    refine I2.laid (t' := s2.toks) (fun b o e => Heap.get?_push_of_some _ e) (Nat.le_of_eq hD) ⟨Nat.zero_le _, [], 0, .nil, ?_⟩
    rw [← hD]
    exact Heap.get?_push_size _ rfl
  have h3 : s3.heap = s2.heap.push { cls := .type "list", data := .seq ([] : List Value).toArray } := by rw [← hs3]
  have sz : ∀ b ∈ fp, b < s2.heap.objs.size := fun b hb => by
    obtain ⟨o, e, _⟩ := T.obj _ _ st2 b hb
    exact Heap.lt_size e
  have f3 : ∀ b ∈ fp, FpOk X pins (upd H2 D (.lst [])) b ∧ b < s3.heap.objs.size := fun b hb => by
    have hlt := sz b hb
    refine ⟨⟨?_, (f2 b hb).2⟩, by rw [h3, Heap.size_push]; exact Nat.lt_succ_of_lt hlt⟩
    rw [upd_ne (by rw [← hD]; exact Nat.ne_of_lt hlt)]
    exact (f2 b hb).1
  have st3 : tn 0 s3.heap := T.keep _ _ _ st2 fun b _ o e => by rw [h3]; exact Heap.get?_push_of_some _ e
  have I4 := block_start I3 ok hW.2.2 f3
  have pg := hg s3 (upd H2 D (.lst [])) s3.heap.objs.size (cellsFrom (s3.heap.objs.size + 1) scope.names (cloFrom X.env.cells scope.names [])) fp
  have pe := he _ ⟨s3, upd H2 D (.lst []), s3.heap.objs.size, cellsFrom (s3.heap.objs.size + 1) scope.names (cloFrom X.env.cells scope.names []), fp, ceXe X (compEnvC scope (cellsFrom (s3.heap.objs.size + 1) scope.names (cloFrom X.env.cells scope.names [])) s3.heap.objs.size X.env), rfl⟩
    (takes_blk hW.1 hs' hf I3 f3 rfl rfl) PassesOwn.looking
  show codeAny _ _ (.compStart (.ListComp elt [⟨tg, iter, [], 0⟩] scope pos) 0 (.ref it) (.ref D) (compEnvC scope (cellsFrom (s3.heap.objs.size + 1) scope.names (cloFrom X.env.cells scope.names [])) s3.heap.objs.size X.env)) (compEnds (model X.prog X.w) X.A X.xe none (EP X pins σ Q) (.ref D) (compEnvC scope (cellsFrom (s3.heap.objs.size + 1) scope.names (cloFrom X.env.cells scope.names [])) s3.heap.objs.size X.env)) { s3 with heap := pushCells (s3.heap.push { cls := .type "dict", data := .dict #[] }) scope.names }
  have nfp : ∀ b ∈ fp, (upd H2 D (.lst [])) b = none := fun b hb => (f3 b hb).1.1
  generalize hce : compEnvC scope (cellsFrom (s3.heap.objs.size + 1) scope.names (cloFrom X.env.cells scope.names [])) s3.heap.objs.size X.env = ce at I4 pg pe ⊢
  have cL : ce.locals = s3.heap.objs.size := by subst hce; rfl
  generalize hH3 : upd H2 D (.lst []) = H3 at I3 I4 pg pe w0 nfp f3
  generalize hs4 : ({ s3 with heap := pushCells (s3.heap.push { cls := .type "dict", data := .dict #[] }) scope.names } : Shared) = s4 at I4 ⊢
  have st4 : tn 0 s4.heap := T.keep _ _ _ st3 fun b _ o e => by rw [← hs4]; exact pushCells_keeps _ _ _ _ (Heap.get?_push_of_some _ e)
  have stat : ∀ {σ' : St} {H' : Hp} {s' : Shared}, Inv (X.blk s3 H3 scope ce fp) [] σ' H' s' → (∀ b ∈ fp, H' b = none) → ∀ b ∈ fp, FpOk (X.blk s3 H3 scope ce fp) [] H' b := fun {σ' H' s'} I' hn b hb =>
    ⟨hn b hb, (I'.ok.exf b hb).1, I'.ok.exfs b hb, .inl hb, fun x c e => (I'.ok.exf b hb).2 x c e, fun p hp => absurd (show p ∈ ([] : List (Addr × Obj)) ++ [] from hp) (by simp)⟩
  have loop : codeAny (model X.prog X.w) X.A (.compLoop (.ListComp elt [⟨tg, iter, [], 0⟩] scope pos) 0 (.ref it) (.ref D) ce) (compEnds (model X.prog X.w) X.A X.xe none (EP X pins σ Q) (.ref D) ce) s4 := by
    refine compLoop_any (fun n s' => ∃ i H', Inv (X.blk s3 H3 scope ce fp) [] (wipe σ (own.map (·.2))) H' s' ∧ tn i s'.heap ∧ (∀ b ∈ fp, H' b = none) ∧ Wt i n H') ?_ m0 ⟨0, H3, I4, st4, nfp, w0⟩
    rintro n s5 ⟨i, H5, I5, st5, n5, w5⟩
    rcases turn i n H5 w5 with ⟨stop, qq⟩ | ⟨go, Nx, hNx, step⟩
    · have td := T.done (X.blk s3 H3 scope ce fp) rfl rfl rfl hc i [] s5 _ H5 (fun _ _ => False) I5 (stat I5 n5) st5 stop
      refine thnF td fun r s6 ⟨hr, I6⟩ => ?_
      subst hr
      have I7 : Inv X pins σ H5 s6 := I3.call' (ch := fp) I6.os I6.base I6.hok I6.bare fun b hb => ⟨(f3 b hb).1.2.2.2.1, (f3 b hb).1.2.1, (f3 b hb).1.2.2.2.2.1, (f3 b hb).1.2.2.2.2.2⟩
      have nC : H5 ce.locals = none := I6.free
      obtain ⟨m, hn, _⟩ := I6.loc
      have hn : s6.heap.Ns ce.locals m := hn
      have nC' : H5 s3.heap.objs.size = none := by rw [← cL]; exact nC
      obtain ⟨f0, f1, f2', f4, f5, f6⟩ := I3.fpOk (H' := H5) (Nat.le_refl _) nC'
      exact ⟨m, hn, fun h'' sb => ⟨.ref D, H5, I7.turned (it := ce.locals) (t' := s6.toks) (fun b o hb e => (sb.2 b hb).trans e) nC (by rw [cL]; exact f1) (by rw [cL]; exact f4) (by rw [cL]; exact f5) (by rw [cL]; exact f6), rfl, qq⟩⟩
    · have ti := T.item (X.blk s3 H3 scope ce fp) rfl rfl rfl hc i [] s5 _ H5 (fun _ _ => False) I5 (stat I5 n5) st5 go
      refine thnF ti fun r s6 ⟨u, hr, h6⟩ => ?_
      subst hr
      refine thnF h6 fun _ s7 ⟨x, H7, I7, r7, y7, st7, n7⟩ => ?_
      have I7' := I7.pinned (stat I7 n7) (T.obj _ _ st7)
      refine thnF (pg.run _ s7 _ H7 x u _ I7' r7 (step x H7 y7)) fun _ s8 ⟨σ8, H8, I8, hw8, q8⟩ => ?_
      refine thnF ((pts_nil (X := X.blk s3 H3 scope ce fp)).run _ s8 σ8 H8 _ I8 q8) fun b s9 ⟨H9, I9, q9⟩ => ?_
      have fin : ∀ {s' : Shared} {H' : Hp}, Inv (X.blk s3 H3 scope ce fp) ([] ++ pinsAt fp s7.heap) σ8 H' s' → Nx H' → ∃ m, m < n ∧ ∃ i H', Inv (X.blk s3 H3 scope ce fp) [] (wipe σ (own.map (·.2))) H' s' ∧ tn i s'.heap ∧ (∀ b ∈ fp, H' b = none) ∧ Wt i m H' := fun {s' H'} I' nx => by
        obtain ⟨m', hm, w'⟩ := hNx H' nx
        have pin' : ∀ b ∈ fp, ∀ o, s7.heap.get? b = some o → s'.heap.get? b = some o ∧ H' b = none := fun b hb o e =>
          let z := I'.pin (b, o) (List.mem_append_right _ (List.mem_append_right _ (mem_pinsAt hb e)))
          ⟨z.1, z.2.1⟩
        have hl : (wipe σ (own.map (·.2))).length = σ8.length := by rw [← hw8, wipe_length]
        refine ⟨m', hm, i + 1, H', (I'.unpinned (pins := [])).weak hl (fun j v e => ?_), T.keep _ _ _ st7 fun b hb o e => (pin' b hb o e).1, fun b hb => ?_, w'⟩
        · rw [← hw8] at e
          exact (wipe_some e).1
        · obtain ⟨o, e, _⟩ := T.obj _ _ st7 b hb
          exact (pin' b hb o e).2
      cases b with
      | false =>
        simp only [Bool.false_eq_true, if_false] at q9 ⊢
        exact fin I9 q9
      | true =>
        simp only [if_true] at q9 ⊢
        refine wpAny_mono (pe.run _ s9 σ8 H9 _ (I9.wish _) q9) (fun z s10 hz => ?_) fun _ _ x => x
        obtain ⟨yv, H10, I10, r10, acc, hD10, hz10, nx⟩ := hz
        exact app_ok (X := X.blk s3 H3 scope ce fp) I10.unwish hD10 hz10 r10 fun s11 I11 => fin I11 nx
  exact codeAny_compStart_list loop (T.self X.A 0 _ _ _ st4 loop)
section
variable {X : Cx} {elt tg iter : Expr} {ρ : List Sl} {pos : Pos} {scope : Scope} {g : TG} {F : PyData → PyData} {xs : List PyData} {m : Nat} {C : Value}
theorem lcX_turn {vs : List Nat} {ρt : List Sl} {acc : List PyData} {D : Addr} {v : V} {x : PyData} {σ : St} {H : Hp} {Ho Fo : Hp} {τ : List Cell} {Pv : Hp → Prop} {te : TE} (hu : ∀ q ∈ vs, ρ[q]? = some Sl.u) (hl : σ.length = ρ.length)
    (ht : TGw X.K g vs ρ x ρt) (hw : Wk ρt ρ) (E : Env X.K Ho Fo (cells ρ σ ++ (.d x, some v) :: (.o acc, some (.ref D)) :: τ) H)
    (k : ∀ σ2 H2, σ2.length = ρt.length → Env X.K Ho Fo (cells ρt σ2 ++ (.o acc, some (.ref D)) :: τ) H2 → (∀ (M : List Cell) H', Env X.K Ho Fo (cells ρt σ2 ++ M) H' → Env X.K Ho Fo (cells ρ σ ++ M) H') →
      te σ2 H2 fun y H4 => ∃ acc, H4 D = some (.lst acc) ∧ acc.length < sizeLine ∧ Pv (upd H4 D (.lst (acc ++ [y])))) :
    g v (wipe σ vs) H fun σ2 H2 => wipe σ2 vs = wipe σ vs ∧ tYes σ2 H2 fun b H3 =>
      if b = true then te σ2 H3 fun y H4 => ∃ acc, H4 D = some (.lst acc) ∧ acc.length < sizeLine ∧ Pv (upd H4 D (.lst (acc ++ [y]))) else Pv H3 := by
  have E1 : Env X.K Ho Fo (cells ρ (wipe σ vs) ++ (.d x, some v) :: (.o acc, some (.ref D)) :: τ) H := env_agree (by rw [wipe_length]) (fun i hi => by
    by_cases hm : i ∈ vs
    · exact absurd (hu i hm) hi
    · rw [wipe_at hm]) E
  refine ht Ho Fo σ _ H v _ hl E1 fun σ2 H2 hwi hl2 E2 => ⟨hwi, ?_⟩
  show (if true = true then te σ2 H2 (fun y H4 => ∃ acc, H4 D = some (.lst acc) ∧ acc.length < sizeLine ∧ Pv (upd H4 D (.lst (acc ++ [y])))) else Pv H2)
  rw [if_pos rfl]
  refine k σ2 H2 hl2 E2 fun M H' E' => ?_
  have E3 := env_wk hw hl2 E'
  refine env_agree (by rw [hl2, hw.len, hl]) (fun i hi => ?_) E3
  by_cases hm : i ∈ vs
  · exact absurd (hu i hm) hi
  · rw [← wipe_at hm, ← wipe_at (σ := σ) hm, hwi]
def teX (X : Cx) (scope : Scope) (elt : Expr) (W : WX) (σ : St) : TE := fun σ2 H2 Q2 => ∀ X', BkX X scope X' → L2N.Takes X' (fun c d _ H => W c d σ H) → PassesOwn (model X'.prog X'.w) X'.A X'.env X'.xe → tE X' elt σ2 H2 Q2
theorem de_lcX (F : PyData → PyData) (m : Nat) (own : List (Str × Nat)) (ρt : PyData → List Sl) (hs' : X.stack = X.env :: X.outer) (hf : X.env.frame = some X.env.locals) (hc : X.calm = true) (hi : DE X iter ρ (.ok (.d (.list xs)))) (ok : BlkOk X.N X.env.scope scope own)
    (hg : ∀ (s : Shared) (H : Hp) (C : Addr) (cl : List (Str × Addr)) (fp : List Addr), PG (X.blk s H scope (compEnvC scope cl C X.env) fp) tg g)
    (hu : ∀ q ∈ own.map (·.2), ρ[q]? = some Sl.u) (hz : xs.length ≤ 100000) (hm : m < xs.length) (ht : ∀ x ∈ xs, TGw X.K g (own.map (·.2)) ρ x (ρt x)) (hw : ∀ x ∈ xs, Wk (ρt x) ρ)
    (he : ∀ i x, i < m → xs[i]? = some x → ∀ X', BkX X scope X' → DE X' elt (ρt x) (.ok (.d (F x)))) (hx : ∀ x, xs[m]? = some x → ∀ X', BkX X scope X' → DE X' elt (ρt x) (.ex C))
    (hs : ∀ x, foldedSetIterable iter X.env x = pure x := by intro _; rfl) : DE X (.ListComp elt [⟨tg, iter, [], 0⟩] scope pos) ρ (.ex C) := fun W hW Ho Fo σ τ H Q hl E hQ => by
  intro pins s I
  refine lcX_run (te := teX X scope elt W σ) hW hs' hf hc I (pi_list pe_) ok hg (fun X' hX tk po => ⟨fun pins s σ H Q I h => h X' hX tk po pins s I⟩) hs ?_
  refine hi W hW Ho Fo σ τ H _ hl E fun v H1 E1 => ?_
  obtain ⟨w, e1, e2⟩ := E1.fget (List.mem_append_right _ List.mem_cons_self)
  cases e1
  cases e2 with
  | lst ha hd =>
    rename_i a ws
    refine ⟨a, rfl, ⟨ws, .of ha⟩, fun D hD => ?_⟩
    have look : ∀ (L : List Cell) H', Env X.K Ho Fo (L ++ (Sl.d (.list xs), some (.ref a)) :: τ) H' → ∃ us, SqL X.K H' a us ∧ us.length = xs.length ∧ ∀ (i : Nat) (w : V), us[i]? = some w → ∃ x, xs[i]? = some x ∧ Env X.K Ho Fo (L ++ (Sl.d x, some w) :: (Sl.d (.list xs), some (.ref a)) :: τ) H' := fun L H' E' => by
      obtain ⟨F, e⟩ := E'
      obtain ⟨w', e3, e4⟩ := e.ok (Sl.d (.list xs), some (.ref a)) (List.mem_append_right _ List.mem_cons_self)
      cases e3
      cases e4 with
      | lst ha' hd' =>
        rename_i us
        refine ⟨us, .of (e.inn _ _ ha'), dps_len hd', fun i w hw => ?_⟩
        obtain ⟨x, h1, h2⟩ := dps_get' hd' hw
        exact ⟨x, h1, Env.unmid ⟨F, e.consN (c := (.d x, some w)) ⟨w, rfl, h2⟩ rfl⟩⟩
    refine ⟨fun i q H => q = xs.length - i ∧ i ≤ m ∧ Env X.K Ho Fo (cells ρ σ ++ (.o ((xs.take i).map F), some (.ref D)) :: (Sl.d (.list xs), some (.ref a)) :: τ) H, ⟨_, rfl, Nat.zero_le _, ?_⟩, fun i q H' ⟨_, him, E'⟩ => ?_⟩
    · exact (E1.newL (xs := []) hD fun _ _ => .nil).unmid
    · have E'' : Env X.K Ho Fo ((cells ρ σ ++ [(.o ((xs.take i).map F), some (.ref D))]) ++ (Sl.d (.list xs), some (.ref a)) :: τ) H' := by rw [List.append_assoc]; exact E'
      obtain ⟨us, hsq, hul, nth⟩ := look _ _ E''
      refine .inr ⟨⟨us, us[i]'(by omega), hsq, List.getElem?_eq_getElem (by omega)⟩, fun H'' => i + 1 ≤ m ∧ Env X.K Ho Fo (cells ρ σ ++ (.o ((xs.take (i + 1)).map F), some (.ref D)) :: (Sl.d (.list xs), some (.ref a)) :: τ) H'', fun H2 ⟨g1, g2⟩ => ⟨_, by omega, rfl, g1, g2⟩, fun w H2 hy => ?_⟩
      obtain ⟨e2, hy⟩ := hy
      subst e2
      have ew := hy us hsq
      obtain ⟨x, hx', E3⟩ := nth i w ew
      have hmem : x ∈ xs := List.mem_of_getElem? hx'
      refine lcX_turn (te := teX X scope elt W σ) (Ho := Ho) (Fo := Fo) (D := D) (τ := (Sl.d (.list xs), some (.ref a)) :: τ) (acc := (xs.take i).map F) (Pv := fun H'' => i + 1 ≤ m ∧ Env X.K Ho Fo (cells ρ σ ++ (.o ((xs.take (i + 1)).map F), some (.ref D)) :: (Sl.d (.list xs), some (.ref a)) :: τ) H'') hu hl (ht x hmem) (hw x hmem) ?_ fun σ2 H3 hl2 E4 back => ?_
      · refine E3.perm ?_
        rw [List.append_assoc]
        exact List.Perm.append_left _ (List.Perm.swap _ _ _)
      · intro X' hX tk po
        have hN : X'.N.Nodup := by obtain ⟨_, _, _, _, _, _, rfl⟩ := hX; exact hW.2.2
        have hK : X'.K = X.K := by obtain ⟨_, _, _, _, _, _, rfl⟩ := hX; rfl
        by_cases hlt : i < m
        · refine he i x hlt hx' X' hX _ ⟨tk, po, hN⟩ Ho Fo σ2 _ H3 _ hl2 (by rw [hK]; exact E4) fun w H4 E5 => ?_
          rw [hK] at E5
          obtain ⟨Fp, e5⟩ := back _ _ E5
          obtain ⟨w', q1, q2⟩ := e5.ok (Sl.d (F x), some w) (List.mem_append_right _ List.mem_cons_self)
          cases q1
          obtain ⟨p', us', q3, q4, q5⟩ := e5.ok (Sl.o ((xs.take i).map F), some (.ref D)) (List.mem_append_right _ (List.mem_cons_of_mem _ List.mem_cons_self))
          cases q3
          refine ⟨us', q4, by rw [dps_len q5, List.length_map, List.length_take]; exact Nat.lt_of_le_of_lt (Nat.min_le_right _ _) (Nat.lt_of_le_of_lt hz (by decide)), hlt, ?_⟩
          have e6 : EnvF X.K Ho Fo Fp H4 ((Sl.o ((xs.take i).map F), some (V.ref D)) :: (cells ρ σ ++ (Sl.d (.list xs), some (.ref a)) :: τ)) := (e5.sub ((List.sublist_cons_self _ _).append_left _)).perm List.perm_middle
          have e7 := e6.mutF (vs' := us' ++ [w]) (xs' := (xs.take i).map F ++ [F x]) (dps_app q5 (.cons q2 .nil))
          have el : (xs.take (i + 1)).map F = (xs.take i).map F ++ [F x] := by rw [List.take_add_one, hx', List.map_append]; rfl
          rw [el]
          exact ⟨Fp, e7.perm List.perm_middle.symm⟩
        · have : i = m := by omega
          subst this
          refine hx x hx' X' hX _ ⟨tk, po, hN⟩ Ho Fo σ2 _ H3 _ hl2 (by rw [hK]; exact E4) fun H4 E5 => ?_
          rw [hK] at E5
          exact hQ H4 ((back _ _ E5).sub (((List.sublist_cons_self _ _).trans (List.sublist_cons_self _ _)).append_left _))
end
theorem first_badG {α : Type} {P : α → Prop} : ∀ {l : List α}, ¬(∀ c ∈ l, P c) → ∃ m, m < l.length ∧ (∀ c, l[m]? = some c → ¬P c) ∧ ∀ i c, i < m → l[i]? = some c → P c
  | [], h => absurd (fun c hc => absurd hc List.not_mem_nil) h
  | a :: l, h => by
    by_cases ha : P a
    · obtain ⟨m, h1, h2, h3⟩ := first_badG (P := P) (l := l) fun z => h fun c hc => by
        rcases List.mem_cons.mp hc with rfl | hc
        · exact ha
        · exact z c hc
      refine ⟨m + 1, by simpa using h1, fun c hc => h2 c (by simpa using hc), fun i c hi hc => ?_⟩
      cases i with
      | zero => simp at hc; subst hc; exact ha
      | succ i => exact h3 i c (by omega) (by simpa using hc)
    · exact ⟨0, by simp, fun c hc => by simp at hc; subst hc; exact ha, fun i c hi => by omega⟩
def mapT0 (f : Str → PyData) (x : PyData) : PyData := match x with
  | .str u => f u
  | _ => .none
theorem de_mapSX {X : Cx} {elt tg iter : Expr} {ρ : List Sl} {pos : Pos} {scope : Scope} {us : List Str} {C : Value} (f : Str → PyData) (m : Nat) (v : Str) (jj : Nat) (hs' : X.stack = X.env :: X.outer) (hf : X.env.frame = some X.env.locals) (hc : X.calm = true) (hi : DE X iter ρ (.ok (.d (.list (LS us))))) (ok : BlkOk X.N X.env.scope scope [(v, jj)])
    (hg : ∀ (s : Shared) (H : Hp) (C : Addr) (cl : List (Str × Addr)) (fp : List Addr), PG (X.blk s H scope (compEnvC scope cl C X.env) fp) tg (gName jj))
    (hu : ρ[jj]? = some Sl.u) (hz : us.length ≤ 100000) (hm : m < us.length)
    (he : ∀ i u, i < m → us[i]? = some u → ∀ X', BkX X scope X' → DE X' elt (ρ.set jj (.d (.str u))) (.ok (.d (f u)))) (hx : ∀ u, us[m]? = some u → ∀ X', BkX X scope X' → DE X' elt (ρ.set jj (.d (.str u))) (.ex C))
    (hs : ∀ x, foldedSetIterable iter X.env x = pure x := by intro _; rfl) : DE X (.ListComp elt [⟨tg, iter, [], 0⟩] scope pos) ρ (.ex C) := by
  have hlt : jj < ρ.length := (List.getElem?_eq_some_iff.mp hu).1
  refine de_lcX (mapT0 f) m [(v, jj)] (fun x => ρ.set jj (.d x)) hs' hf hc hi ok hg (by simpa using hu) (by simpa using hz) (by simpa using hm) (fun x hx => tgw_name hlt) (fun x hx => wk_setu hu) (fun i x hi hx X' hX => ?_) (fun x hx' X' hX => ?_) hs
  · rw [List.getElem?_map] at hx
    cases h : us[i]? with
    | none => rw [h] at hx; cases hx
    | some u =>
      rw [h] at hx
      cases hx
      exact he i u hi h X' hX
  · rw [List.getElem?_map] at hx'
    cases h : us[m]? with
    | none => rw [h] at hx'; cases hx'
    | some u =>
      rw [h] at hx'
      cases hx'
      exact hx u h X' hX
end DL

namespace DL
open PySem PySem.Spec PyProof.Rows L2
section
variable {X : Cx} {a b c e f o elt tg iter : Expr} {es ifs : List Expr} {ρ ρ' ρ1 ρ2 : List Sl} {pos apos cpos p p2 p3 q : Pos} {x y z : PyData} {k k1 k2 : Sl} {n m v name : Str} {i j : Int} {u w : Str} {scope : Scope}
theorem op_mulS : OpR X (binaryOp .Mult) (fun x y H Q => ∃ i j, x = .str i ∧ y = .int j ∧ MulOk i j ∧ Q (.str (Txt.mul i j)) H) := by
  intro pins s σ H x y v u Q I rx ry h
  obtain ⟨i, j, rfl, rfl, hz, q⟩ := h
  obtain ⟨t, rfl⟩ := rx
  obtain ⟨t', rfl⟩ := ry
  exact SB.mul hz fun t' tk => ⟨.str (Txt.mul i j), H, I.tok _, ⟨_, rfl⟩, q⟩
theorem de_mulS (ha : DE X a ρ (.ok (.d (.str u)))) (hb : DE X b ρ (.ok (.d (.int i)))) (hz : MulOk u i) : DE X (.BinOp a .Mult b pos) ρ (.ok (.d (.str (Txt.mul u i)))) := de_op op_mulS ha hb fun Ho Fo L v v2 H Q E hQ => by
  obtain ⟨v', e1, h1⟩ := E.fget List.mem_cons_self
  obtain ⟨w', e2, h2⟩ := E.fget (List.mem_cons_of_mem _ List.mem_cons_self)
  cases e1; cases e2
  cases dp_str h1; cases dp_int h2
  exact ⟨u, i, rfl, rfl, hz, hQ _ _ (E.tail.tail.str _)⟩
def signsD (l : List Nat) : List PyData := l.map fun c => PyData.str ⟨#[c]⟩
theorem de_lcT {g : TG} {F : PyData → Option PyData} (own : List (Str × Nat)) (ρt : PyData → List Sl) (hc : X.calm = true) (hi : DE X iter ρ (.ok (.d (.str u)))) (ok : BlkOk X.N X.env.scope scope own) (hg : ∀ (s : Shared) (H : Hp) (C : Addr) (cl : List (Str × Addr)) (fp : List Addr), PG (X.blk s H scope (compEnvC scope cl C X.env) fp) tg g)
    (hu : ∀ q ∈ own.map (·.2), ρ[q]? = some Sl.u) (hz : (tlS u).length ≤ 100000) (ht : ∀ x ∈ signsD (tlS u), TGw X.K g (own.map (·.2)) ρ x (ρt x)) (hw : ∀ x ∈ signsD (tlS u), Wk (ρt x) ρ) (hif : ∀ x ∈ signsD (tlS u), ∀ X', Bk X scope X' → DTs X' ifs (ρt x) (F x).isSome) (he : ∀ x ∈ signsD (tlS u), ∀ y, F x = some y → ∀ X', Bk X scope X' → DE X' elt (ρt x) (.ok (.d y)))
    (hq : ifs.length ≤ 1 := by decide) (hs : ∀ x, foldedSetIterable iter X.env x = pure x := by intro _; rfl) : DE X (.ListComp elt [⟨tg, iter, ifs, 0⟩] scope pos) ρ (.ok (.o ((signsD (tlS u)).filterMap F))) := fun W hW Ho Fo σ τ H Q hl E hQ => by
  refine tE_of (pe_lc (te := teB X scope elt) hc hW.2.2 (pi_str pe_) ok hg (pts_ hq) (fun s H C cl fp => ⟨fun pins s' σ H' Q I h => h _ ⟨s, H, C, cl, fp, rfl⟩ pins s' I⟩) hs) ?_
  refine hi W hW Ho Fo σ τ H _ hl E fun v H1 E1 => ?_
  obtain ⟨w', e1, e2⟩ := E1.mid.fget List.mem_cons_self
  cases e1
  cases dp_str e2
  have hsz : u.cps.size = (tlS u).length := by show _ = u.cps.toList.length; rw [Array.length_toList]
  have hat : ∀ i : Nat, u.cps[i]? = (tlS u)[i]? := fun i => by show _ = u.cps.toList[i]?; rw [Array.getElem?_toList]
  refine ⟨u, rfl, fun D hD => ?_⟩
  refine ⟨fun i q H => q = (tlS u).length - i ∧ i ≤ (tlS u).length ∧ Env X.K Ho Fo (cells ρ σ ++ (.o ((signsD ((tlS u).take i)).filterMap F), some (.ref D)) :: τ) H, ⟨_, rfl, Nat.zero_le _, ?_⟩, fun i q H' ⟨_, him, E'⟩ => ?_⟩
  · exact (E1.mid.tail.newL (xs := []) hD fun _ _ => .nil).unmid
  · by_cases hlt : i < (tlS u).length
    · refine .inr ⟨by show i < u.cps.size; omega, fun H'' => i + 1 ≤ (tlS u).length ∧ Env X.K Ho Fo (cells ρ σ ++ (.o ((signsD ((tlS u).take (i + 1))).filterMap F), some (.ref D)) :: τ) H'', fun H2 ⟨g1, g2⟩ => ⟨_, by omega, rfl, g1, g2⟩, fun w H2 hy => ?_⟩
      obtain ⟨e2, c0, hc0, hy⟩ := hy
      subst e2 hy
      rw [hat] at hc0
      have hm : PyData.str ⟨#[c0]⟩ ∈ signsD (tlS u) := List.mem_map.mpr ⟨c0, List.mem_of_getElem? hc0, rfl⟩
      have el : (signsD ((tlS u).take (i + 1))).filterMap F = (signsD ((tlS u).take i)).filterMap F ++ (F (.str ⟨#[c0]⟩)).toList := by
        unfold signsD
        rw [List.take_add_one, hc0, List.map_append, List.filterMap_append]
        cases hF : F (.str ⟨#[c0]⟩) <;> simp [hF]
      have zl : ((signsD ((tlS u).take i)).filterMap F).length < 100000 := by
        have h1 := List.length_filterMap_le F (signsD ((tlS u).take i))
        unfold signsD at h1 ⊢
        rw [List.length_map, List.length_take] at h1
        omega
      refine lc_turn (Ho := Ho) (Fo := Fo) (F := F) (D := D) (τ := τ) (acc := (signsD ((tlS u).take i)).filterMap F) (Pv := fun H'' => i + 1 ≤ (tlS u).length ∧ Env X.K Ho Fo (cells ρ σ ++ (.o ((signsD ((tlS u).take (i + 1))).filterMap F), some (.ref D)) :: τ) H'') hW.2.2 hu hl zl (ht _ hm) (hw _ hm) hq (hif _ hm) (he _ hm) ?_ fun H' E4 => ⟨hlt, ?_⟩
      · exact (E'.str _).unmid
      · rw [el]; exact E4
    · have : i = (tlS u).length := by omega
      subst this
      refine .inl ⟨by show u.cps.size ≤ _; omega, hQ _ _ ?_⟩
      rw [List.take_length] at E'
      exact E'
def filT (t : Nat → Bool) (x : PyData) : Option PyData := match x with
  | .str s => if t ((tlS s).headD 0) then some x else none
  | _ => none
theorem filT_eq (t : Nat → Bool) : ∀ l : List Nat, (signsD l).filterMap (filT t) = signsD (l.filter t)
  | [] => rfl
  | c :: l => by
    have ih := filT_eq t l
    unfold signsD at ih ⊢
    rw [List.map_cons, List.filterMap_cons]
    have e : filT t (.str ⟨#[c]⟩) = if t c then some (.str ⟨#[c]⟩) else none := rfl
    rw [e, List.filter_cons]
    by_cases h : t c = true
    · rw [if_pos h, if_pos h]
      show _ :: _ = _ :: _
      rw [ih]
    · rw [if_neg h, if_neg h]
      exact ih
theorem de_filT (t : Nat → Bool) (v : Str) (jj : Nat) (hc : X.calm = true) (hi : DE X iter ρ (.ok (.d (.str u)))) (ok : BlkOk X.N X.env.scope scope [(v, jj)]) (hg : ∀ (s : Shared) (H : Hp) (C : Addr) (cl : List (Str × Addr)) (fp : List Addr), PG (X.blk s H scope (compEnvC scope cl C X.env) fp) tg (gName jj))
    (hu : ρ[jj]? = some Sl.u) (hz : u.length ≤ 100000) (hif : ∀ x ∈ tlS u, ∀ X', Bk X scope X' → DT X' c (ρ.set jj (.d (.str ⟨#[x]⟩))) (.ok (t x))) (he : ∀ x ∈ tlS u, ∀ X', Bk X scope X' → DE X' elt (ρ.set jj (.d (.str ⟨#[x]⟩))) (.ok (.d (.str ⟨#[x]⟩))))
    (hs : ∀ x, foldedSetIterable iter X.env x = pure x := by intro _; rfl) : DE X (.ListComp elt [⟨tg, iter, [c], 0⟩] scope pos) ρ (.ok (.o (signsD ((tlS u).filter t)))) := by
  have hlt : jj < ρ.length := (List.getElem?_eq_some_iff.mp hu).1
  rw [← filT_eq]
  refine de_lcT (F := filT t) [(v, jj)] (fun x => ρ.set jj (.d x)) hc hi ok hg (by simpa using hu) (by rw [← TL.len_tl]; exact hz) (fun x hx => tgw_name hlt) (fun x hx => wk_setu hu) (fun x hx X' hX => ?_) (fun x hx y hy X' hX => ?_) (Nat.le_refl 1) hs
  · obtain ⟨c', hm, rfl⟩ := List.mem_map.mp hx
    have := hif c' hm X' hX
    show DT X' c _ (.ok (filT t (.str ⟨#[c']⟩)).isSome)
    have e : (filT t (.str ⟨#[c']⟩)).isSome = t c' := by
      show (if t c' then some (PyData.str ⟨#[c']⟩) else none).isSome = _
      cases t c' <;> rfl
    rw [e]
    exact this
  · obtain ⟨c', hm, rfl⟩ := List.mem_map.mp hx
    have e : filT t (.str ⟨#[c']⟩) = if t c' then some (PyData.str ⟨#[c']⟩) else none := rfl
    rw [e] at hy
    cases ht : t c' with
    | false => rw [ht] at hy; cases hy
    | true =>
      rw [ht] at hy
      cases hy
      exact he c' hm X' hX
end
end DL

namespace Fk
open PySem PySem.Spec PyProof.Rows L2 DL
def topS (i : Nat) : Stmt := PySem.Challenge.pw_fourtell_k14_read_or_refused.main.body.getD i (.Pass ⟨0, 0, 0, 0⟩)
abbrev s_number_of : Stmt := topS 11
abbrev s_read : Stmt := topS 12
abbrev s__law_cell : Stmt := topS 14
abbrev s__law_ints : Stmt := topS 15
abbrev s__law_which : Stmt := topS 16
abbrev s__law_due : Stmt := topS 17
abbrev s__law_sign : Stmt := topS 18
abbrev s__law_odd : Stmt := topS 19
abbrev s_law : Stmt := topS 20
structure Txt (K : PySem.W.Frag) (mg : Str → Option Value) : Prop where
  f_number_of : Df K mg "number_of" s_number_of ["word"]
  f_read : Df K mg "read" s_read ["text"]
  f__law_cell : Df K mg "_law_cell" s__law_cell ["script", "k"]
  f__law_ints : Df K mg "_law_ints" s__law_ints ["found", "due"]
  f__law_which : Df K mg "_law_which" s__law_which ["e"]
  f__law_due : Df K mg "_law_due" s__law_due ["text"]
  f__law_sign : Df K mg "_law_sign" s__law_sign ["cell", "way"]
  f__law_odd : Df K mg "_law_odd" s__law_odd ["cell"]
  x_TellError : ∃ C, ExC K mg "TellError" C
  x_NoPack : ∃ C, ExC K mg "NoPack" C
  x_NoHand : ∃ C, ExC K mg "NoHand" C
  x_NoRow : ∃ C, ExC K mg "NoRow" C
  x_NoCard : ∃ C, ExC K mg "NoCard" C
  x_NoNumber : ∃ C, ExC K mg "NoNumber" C
  x_NoPlan : ∃ C, ExC K mg "NoPlan" C
  x_NoNote : ∃ C, ExC K mg "NoNote" C
  m_ValueError : mg "ValueError" = none
  m_bool : mg "bool" = none
  m_int : mg "int" = none
  m_isinstance : mg "isinstance" = none
  m_len : mg "len" = none
  m_list : mg "list" = none
  m_range : mg "range" = none
  m_str : mg "str" = none
  g_FIGURES : ∃ t, mg "FIGURES" = some (.str "0123456789" t)
  cls : ∃ CT C0 C1 C2 C3 C4 C5 C6, Cls K mg CT C0 C1 C2 C3 C4 C5 C6
variable {P : Program} {w : World} {K : PySem.W.Frag} {mg : Str → Option Value} {base : Heap}
theorem sc_number_of : FnScope ["word", "sign"] ["word"] (defScope s_number_of) := ⟨rfl, rfl, rfl, by decide +kernel, rfl, by decide +kernel, by decide +kernel⟩
def S_number_of (mg : Str → Option Value) (ks : List Sl) (r : Re) : Prop := ∃ u : Str, ks = [.d (.str u)] ∧ u.length ≤ 1000 ∧ ((WordOk (tlS u) ∧ r = .ok (.d (.int (wdv (tlS u))))) ∨ ¬WordOk (tlS u) ∧ ∃ C, mg "NoNote" = some (.ref C) ∧ r = .ex (.ref C))
theorem i_number_of {u : Str} (hl : u.length ≤ 1000) (h : WordOk (tlS u)) : S_number_of mg [.d (.str u)] (.ok (.d (.int (wdv (tlS u))))) := ⟨u, rfl, hl, .inl ⟨h, rfl⟩⟩
theorem x_number_of {u : Str} {C : Addr} (hl : u.length ≤ 1000) (h : ¬WordOk (tlS u)) (g : mg "NoNote" = some (.ref C)) : S_number_of mg [.d (.str u)] (.ex (.ref C)) := ⟨u, rfl, hl, .inr ⟨h, C, g, rfl⟩⟩
theorem at0 {u : Str} (h : 1 < (u.length : Int)) : atI u.cps.toList 0 = some ((tlS u).headD 0) := by
  have hl : u.length = (tlS u).length := TL.len_tl u
  show atI (tlS u) 0 = _
  generalize tlS u = l at *
  cases l with
  | nil => simp at hl; omega
  | cons a l =>
    unfold atI ixN
    rw [if_pos (by omega), if_pos (by show (0 : Int) < ((l.length + 1 : Nat) : Int); omega)]
    rfl
theorem ok_number_of (T : Txt K mg) : Cal P w K mg base "number_of" 1 ["word"] (S_number_of mg) := by
  refine mk_cal T.f_number_of sc_number_of (by decide) (fun ks r h => by obtain ⟨_, rfl, _⟩ := h; rfl) fun f cdv A outer s_ H E hr ks r h => ?_
  obtain ⟨u, rfl, hl, h⟩ := h
  obtain ⟨tk, gF⟩ := T.g_FIGURES
  have hlen : u.length = (tlS u).length := TL.len_tl u
  have hsz : u.cps.size = (tlS u).length := by show _ = u.cps.toList.length; rw [Array.length_toList]
  have hat : ∀ i : Nat, u.cps[i]? = (tlS u)[i]? := fun i => by show _ = u.cps.toList[i]?; rw [Array.getElem?_toList]
  by_cases hA : 1 ≤ (tlS u).length ∧ (tlS u).length ≤ 3 ∧ ((tlS u).length ≤ 1 ∨ (tlS u).headD 0 ≠ 48)
  · have test : (decide ((u.length : Int) < 1) || (decide (3 < (u.length : Int)) || (decide (1 < (u.length : Int)) && decide ((⟨#[(tlS u).headD 0]⟩ : Str) = Str.ofString "0")))) = false := by
      rw [decide_eq_false (by omega : ¬(u.length : Int) < 1), decide_eq_false (by omega : ¬3 < (u.length : Int))]
      rcases hA.2.2 with h1 | h1
      · rw [decide_eq_false (by omega : ¬1 < (u.length : Int))]; rfl
      · rw [decide_eq_false (fun e => h1 ((sign0 _).mp e))]; simp
    by_cases hD : ∀ c ∈ tlS u, 48 ≤ c ∧ c ≤ 57
    · have ok : WordOk (tlS u) := ⟨hA.1, hA.2.1, hA.2.2, hD⟩
      rcases h with ⟨_, rfl⟩ | ⟨h, _⟩
      · exact does_rt (dss_ifF (dt_is (dt_w (dw_or (dt_lt (de_lenS T.m_len (de_var 0 rfl) (by omega)) de_int) fun _ => (dw_or (dt_gt (de_lenS T.m_len (de_var 0 rfl) (by omega)) de_int) fun _ => (dw_or1 (dt_w (dw_and (dt_gt (de_lenS T.m_len (de_var 0 rfl) (by omega)) de_int) fun q => (dw_and1 (dt_eqS (de_ixS (de_var 0 rfl) de_int (by omega) (at0 (of_decide_eq_true q))) de_str)))))))) test) (dss_cons (ds_forS (g := gName 1) (ρs := fun _ => [.d (.str u), .u]) (ρt := fun i => [.d (.str u), .d (.str ⟨#[(tlS u).getD i 0]⟩)]) rfl (de_var 0 rfl) (pg_name sc_number_of.nd rfl (Or.inl rfl)) (Wk.refl _) (fun i c _ hc => by rw [hat] at hc; have e : (tlS u).getD i 0 = c := by { rw [List.getD_eq_getElem?_getD, hc]; rfl }; rw [e]; exact tgo_name (by simp)) (fun i c h1 hc => go_nx
            (dss_ifF (dt_is (dt_notInS (de_var 1 rfl) (de_gstr gF)) (by
              rw [hat] at hc
              have e : (tlS u).getD i 0 = c := by { rw [List.getD_eq_getElem?_getD, hc]; rfl }
              rw [e, decide_eq_true ((figs c).mpr (hD c (List.mem_of_getElem? hc)))]; rfl)) dss_nil)) .all)
          (dss_one (ds_ret (de_intS T.m_int (de_var 0 rfl) (int_word ok) (by omega))))))
      · exact absurd ok h
    · rcases h with ⟨h, _⟩ | ⟨_, C, g, rfl⟩
      · exact absurd h.2.2.2 hD
      · obtain ⟨C', x⟩ := T.x_NoNote
        cases x.g.symm.trans g
        obtain ⟨m, m1, m2, m3⟩ := first_bad (P := fun c => 48 ≤ c ∧ c ≤ 57) hD
        have e0 : (tlS u)[m]? = some ((tlS u).getD m 0) := by rw [List.getD_eq_getElem?_getD, List.getElem?_eq_getElem m1]; rfl
        exact does_ex (dss_ifF (dt_is (dt_w (dw_or (dt_lt (de_lenS T.m_len (de_var 0 rfl) (by omega)) de_int) fun _ => (dw_or (dt_gt (de_lenS T.m_len (de_var 0 rfl) (by omega)) de_int) fun _ => (dw_or1 (dt_w (dw_and (dt_gt (de_lenS T.m_len (de_var 0 rfl) (by omega)) de_int) fun q => (dw_and1 (dt_eqS (de_ixS (de_var 0 rfl) de_int (by omega) (at0 (of_decide_eq_true q))) de_str)))))))) test) (dss_end (ds_forS (m := m) (g := gName 1) (ρs := fun _ => [.d (.str u), .u]) (ρt := fun i => [.d (.str u), .d (.str ⟨#[(tlS u).getD i 0]⟩)]) rfl (de_var 0 rfl) (pg_name sc_number_of.nd rfl (Or.inl rfl)) (Wk.refl _) (fun i c _ hc => by rw [hat] at hc; have e : (tlS u).getD i 0 = c := by { rw [List.getD_eq_getElem?_getD, hc]; rfl }; rw [e]; exact tgo_name (by simp)) (fun i c h1 hc => go_nx
            (dss_ifF (dt_is (dt_notInS (de_var 1 rfl) (de_gstr gF)) (by
              rw [hat] at hc
              have e : (tlS u).getD i 0 = c := by { rw [List.getD_eq_getElem?_getD, hc]; rfl }
              rw [e, decide_eq_true ((figs c).mpr (m3 i c h1 hc))]; rfl)) dss_nil)) (.ex (by omega) (dss_ifT (dt_is (dt_notInS (de_var 1 rfl) (de_gstr gF)) (by
              rw [decide_eq_false fun z => m2 _ e0 ((figs _).mp z)]; rfl)) (dss_one (ds_err rfl x)))))))
  · rcases h with ⟨h, _⟩ | ⟨_, C, g, rfl⟩
    · exact absurd ⟨h.1, h.2.1, h.2.2.1⟩ hA
    · obtain ⟨C', x⟩ := T.x_NoNote
      cases x.g.symm.trans g
      refine does_ex (dss_ifT (dt_is (dt_w (dw_or (dt_lt (de_lenS T.m_len (de_var 0 rfl) (by omega)) de_int) fun _ => (dw_or (dt_gt (de_lenS T.m_len (de_var 0 rfl) (by omega)) de_int) fun _ => (dw_or1 (dt_w (dw_and (dt_gt (de_lenS T.m_len (de_var 0 rfl) (by omega)) de_int) fun q => (dw_and1 (dt_eqS (de_ixS (de_var 0 rfl) de_int (by omega) (at0 (of_decide_eq_true q))) de_str)))))))) ?_) (dss_one (ds_err rfl x)))
      by_cases h1 : (u.length : Int) < 1
      · rw [decide_eq_true h1]; rfl
      · by_cases h3 : 3 < (u.length : Int)
        · rw [decide_eq_true h3]; simp
        · have h4 : ¬((tlS u).length ≤ 1 ∨ (tlS u).headD 0 ≠ 48) := fun z => hA ⟨by omega, by omega, z⟩
          have h5 : (tlS u).headD 0 = 48 := Decidable.byContradiction fun z => h4 (.inr z)
          rw [decide_eq_true (by omega : 1 < (u.length : Int)), decide_eq_true ((sign0 _).mpr h5)]; simp
def wordsOf (u : Str) : List Str := Txt.split u blank
def ReadOk (u : Str) : Prop := (wordsOf u).length ≤ 6 ∧ ∀ w ∈ wordsOf u, WordOk (tlS w)
def readL (u : Str) : List Int := (wordsOf u).map fun w => wdv (tlS w)
theorem words_len {u w : Str} (h : w ∈ wordsOf u) : w.length ≤ u.length := part_short h
theorem words_few (u : Str) : (wordsOf u).length ≤ u.length + 2 := split_le u blank
theorem sc_read : FnScope ["text", "words", "word"] ["text"] (defScope s_read) := ⟨rfl, rfl, rfl, by decide +kernel, rfl, by decide +kernel, by decide +kernel⟩
def S_read (mg : Str → Option Value) (ks : List Sl) (r : Re) : Prop := ∃ u : Str, ks = [.d (.str u)] ∧ u.length ≤ 900 ∧ ((ReadOk u ∧ r = .ok (.o (LI (readL u)))) ∨ ¬ReadOk u ∧ ∃ C, mg "NoNote" = some (.ref C) ∧ r = .ex (.ref C))
theorem i_read {u : Str} (hl : u.length ≤ 900) (h : ReadOk u) : S_read mg [.d (.str u)] (.ok (.o (LI (readL u)))) := ⟨u, rfl, hl, .inl ⟨h, rfl⟩⟩
theorem x_read {u : Str} {C : Addr} (hl : u.length ≤ 900) (h : ¬ReadOk u) (g : mg "NoNote" = some (.ref C)) : S_read mg [.d (.str u)] (.ex (.ref C)) := ⟨u, rfl, hl, .inr ⟨h, C, g, rfl⟩⟩
theorem ok_read (T : Txt K mg) : Cal P w K mg base "read" 2 ["text"] (S_read mg) := by
  refine mk_cal T.f_read sc_read (by decide) (fun ks r h => by obtain ⟨_, rfl, _⟩ := h; rfl) fun f cdv A outer s_ H E hr ks r h => ?_
  obtain ⟨u, rfl, hl, h⟩ := h
  have hw := words_few u
  by_cases h6 : (wordsOf u).length ≤ 6
  · have test : decide (6 < ((LS (wordsOf u)).length : Int)) = false := by
      rw [List.length_map]
      exact decide_eq_false (by omega)
    have h100 : (Txt.split u (Str.ofString " ")).length ≤ 100000 := Nat.le_trans hw (by omega)
    by_cases hD : ∀ w ∈ wordsOf u, WordOk (tlS w)
    · rcases h with ⟨_, rfl⟩ | ⟨h, _⟩
      · refine does_rt
          (dss_cons (ds_set 1 (de_frz (de_oIs (de_split (de_var 0 rfl) de_str (by decide +kernel) (by omega)) (rfl : LS (Txt.split u " ") = LS (wordsOf u)))))
          (dss_ifF (dt_is (dt_gt (de_len T.m_len (de_var 1 rfl)) de_int) test)
          (dss_one (ds_retO' (de_mapS (fun u => .int (wdv (tlS u))) "word" 2 rfl (de_var 1 rfl) (blkOk_by (N := ["text", "words", "word"]) (sc := defScope s_read) (by decide +kernel)) (fun _ _ _ _ _ => pg_name sc_read.nd rfl (Or.inl rfl)) rfl h100 (fun x hx X' ⟨_, _, _, _, _, hX⟩ => by
            subst hX
            have hb := words_len hx
            exact (de_call (ok_number_of T) (hr.mono (by decide)) (da_cons (de_var 2 rfl) da_nil) (i_number_of (by omega) (hD x hx))))) ?_))))
        show _ = ((wordsOf u).map fun w => wdv (tlS w)).map PyData.int
        rw [List.map_map]
        rfl
      · exact absurd ⟨h6, hD⟩ h
    · rcases h with ⟨h, _⟩ | ⟨_, C, g, rfl⟩
      · exact absurd h.2 hD
      · obtain ⟨m, m1, m2, m3⟩ := first_badG hD
        exact does_ex
          (dss_cons (ds_set 1 (de_frz (de_oIs (de_split (de_var 0 rfl) de_str (by decide +kernel) (by omega)) (rfl : LS (Txt.split u " ") = LS (wordsOf u)))))
          (dss_ifF (dt_is (dt_gt (de_len T.m_len (de_var 1 rfl)) de_int) test)
          (dss_one (ds_retX (de_mapSX (fun u => .int (wdv (tlS u))) m "word" 2 rfl rfl rfl (de_var 1 rfl) (blkOk_by (N := ["text", "words", "word"]) (sc := defScope s_read) (by decide +kernel)) (fun _ _ _ _ _ => pg_name sc_read.nd rfl (Or.inl rfl)) rfl h100 m1 (fun i x hi hx X' ⟨_, _, _, _, _, _, hX⟩ => by
            subst hX
            have hb := words_len (List.mem_of_getElem? hx)
            exact (de_call (ok_number_of T) (hr.mono (by decide)) (da_cons (de_var 2 rfl) da_nil) (i_number_of (by omega) (m3 i x hi hx)))) (fun x hx X' ⟨_, _, _, _, _, _, hX⟩ => by
            subst hX
            have hb := words_len (List.mem_of_getElem? hx)
            exact (de_call (ok_number_of T) (hr.mono (by decide)) (da_cons (de_var 2 rfl) da_nil) (x_number_of (by omega) (m2 x hx) g))))))))
  · rcases h with ⟨h, _⟩ | ⟨_, C, g, rfl⟩
    · exact absurd h.1 h6
    · obtain ⟨C', x⟩ := T.x_NoNote
      cases x.g.symm.trans g
      have test : decide (6 < ((LS (wordsOf u)).length : Int)) = true := by
        rw [List.length_map]
        exact decide_eq_true (by omega)
      exact does_ex
          (dss_cons (ds_set 1 (de_frz (de_oIs (de_split (de_var 0 rfl) de_str (by decide +kernel) (by omega)) (rfl : LS (Txt.split u " ") = LS (wordsOf u)))))
          (dss_ifT (dt_is (dt_gt (de_len T.m_len (de_var 1 rfl)) de_int) test) (dss_one (ds_err rfl x))))
theorem sc__law_cell : FnScope ["script", "k", "base"] ["script", "k"] (defScope s__law_cell) := ⟨rfl, rfl, rfl, by decide +kernel, rfl, by decide +kernel, by decide +kernel⟩
def S__law_cell (ks : List Sl) (r : Re) : Prop := ∃ (ns : List Int) (k : Int), ks = [.q ns, .d (.int k)] ∧ 0 ≤ k ∧ r = .ok (.d (.int (cell ns k)))
theorem i__law_cell {ns : List Int} {k : Int} (h : 0 ≤ k) : S__law_cell [.q ns, .d (.int k)] (.ok (.d (.int (cell ns k)))) := ⟨ns, k, rfl, h, rfl⟩
theorem atI_q {ns : List Int} {k : Int} (h : 0 ≤ k) (h2 : k < ns.length) : atI ns k = some (ns.getD k.toNat 0) := by
  unfold atI ixN
  rw [if_pos h, if_pos h2]
  show ns[k.toNat]? = _
  rw [List.getD_eq_getElem?_getD, List.getElem?_eq_getElem (by omega)]
  rfl
theorem ok__law_cell (T : Txt K mg) : Cal P w K mg base "_law_cell" 1 ["script", "k"] S__law_cell := by
  refine mk_cal T.f__law_cell sc__law_cell (by decide) (fun ks r h => by obtain ⟨_, _, rfl, _⟩ := h; rfl) fun f cdv A outer s H E hr ks r h => ?_
  obtain ⟨ns, k, rfl, hk, rfl⟩ := h
  by_cases h1 : k < (ns.length : Int)
  · refine does_rt (dss_ifT (dt_is (dt_lt (de_var 1 rfl) (de_lenQ 0 T.m_len rfl)) (decide_eq_true h1)) (dss_one (ds_retD (de_ixQ 0 rfl (de_var 1 rfl) (atI_q hk h1)) ?_)))
    unfold cell
    rw [if_pos h1]
  · refine does_rt (dss_ifF (dt_is (dt_lt (de_var 1 rfl) (de_lenQ 0 T.m_len rfl)) (decide_eq_false h1)) (dss_cons (ds_set 2 de_int) ?_))
    have e : cell ns k = (ns.headD 0 % 65521 * 48271 + k * 30103) % 65521 := by unfold cell; rw [if_neg h1]
    rw [e]
    cases ns with
    | nil => exact dss_ifF (dt_is (dt_gt (de_lenQ 0 T.m_len rfl) de_int) rfl) (dss_one (ds_ret (de_mod (de_add (de_mul (de_mod (de_var 2 rfl) de_int (by decide)) de_int (.inr (by omega))) (de_mul (de_var 1 rfl) de_int (.inr (by omega)))) de_int (by decide))))
    | cons a l => exact dss_cons (ds_if (dt_is (dt_gt (de_lenQ 0 T.m_len rfl) de_int) (q := true) (decide_eq_true (by simp))) (fun _ => dss_one (ds_set 2 (de_ixQ 0 rfl de_int (j := a) (by
        rw [atI_q (by omega) (by simp)]; rfl)))) (fun z => nomatch z)) (dss_one (ds_ret (de_mod (de_add (de_mul (de_mod (de_var 2 rfl) de_int (by decide)) de_int (.inr (by omega))) (de_mul (de_var 1 rfl) de_int (.inr (by omega)))) de_int (by decide))))
theorem sc__law_ints : FnScope ["found", "due", "k"] ["found", "due"] (defScope s__law_ints) := ⟨rfl, rfl, rfl, by decide +kernel, rfl, by decide +kernel, by decide +kernel⟩
def S__law_ints (ks : List Sl) (r : Re) : Prop := ∃ ns : List Int, ks = [.d (.list (LI ns)), .d (.list (LI ns))] ∧ ns.length < 100000 ∧ r = .ok (.d (.bool true))
theorem i__law_ints {ns : List Int} (h : ns.length < 100000) : S__law_ints [.d (.list (LI ns)), .d (.list (LI ns))] (.ok (.d (.bool true))) := ⟨ns, rfl, h, rfl⟩
theorem ok__law_ints (T : Txt K mg) : Cal P w K mg base "_law_ints" 1 ["found", "due"] S__law_ints := by
  refine mk_cal T.f__law_ints sc__law_ints (by decide) (fun ks r h => by obtain ⟨_, rfl, _⟩ := h; rfl) fun f cdv A outer s H E hr ks r h => ?_
  obtain ⟨ns, rfl, hl, rfl⟩ := h
  refine does_rt
    (dss_ifF (dt_is (dt_w (dw_or (dt_not (dt_val (de_isi (q := true) T.m_isinstance (de_var 0 rfl) T.m_list PyProof.Rows.boot_list))) fun _ => (dw_or1 (dt_ne (de_len T.m_len (de_var 0 rfl)) (de_len T.m_len (de_var 1 rfl)))))) (by simp))
    (dss_cons (ds_for1 (g := gName 2) (ρs := fun _ => [.d (.list (LI ns)), .d (.list (LI ns)), .u]) (ρt := fun i => [.d (.list (LI ns)), .d (.list (LI ns)), .d (.int (0 + i))]) rfl T.m_range (de_len T.m_len (de_var 1 rfl)) ?_ rfl (pg_name sc__law_ints.nd rfl (Or.inl rfl)) (Wk.refl _) (fun i _ _ => tgo_name (by simp)) (fun i h1 h2 => go_nx
        (dss_ifF (dt_is (dt_w (dw_or (dt_not (dt_val (de_isi (q := true) T.m_isinstance (de_ixL (de_var 0 rfl) (de_var 2 rfl) (atI_LI (k := i) (by omega) ?_)) T.m_int PyProof.Rows.boot_int))) fun _ => (dw_or (dt_val (de_isi (q := false) T.m_isinstance (de_ixL (de_var 0 rfl) (de_var 2 rfl) (atI_LI (k := i) (by omega) ?_)) T.m_bool PyProof.Rows.boot_bool)) fun _ => (dw_or1 (dt_ne (de_ixL (de_var 0 rfl) (de_var 2 rfl) (atI_LI (k := i) (by omega) ?_)) (de_ixL (de_var 1 rfl) (de_var 2 rfl) (atI_LI (k := i) (by omega) ?_))))))) (by simp)) dss_nil)) .all)
    (dss_one (ds_ret de_bl))))
  · rw [List.length_map]; omega
  all_goals (simp at h2; exact h2)
theorem sc__law_which : FnScope ["e", "kinds"] ["e"] (defScope s__law_which) := ⟨rfl, rfl, rfl, by decide +kernel, rfl, by decide +kernel, by decide +kernel⟩
theorem ok__law_which (T : Txt K mg) {CT C0 C1 C2 C3 C4 C5 C6 D : Addr} {j : Nat} (L : Cls K mg CT C0 C1 C2 C3 C4 C5 C6) (hw : WhC K D C0 C1 C2 C3 C4 C5 C6 j) (hj : j < 7) : CalW P w K mg base "_law_which" 1 D j := by
  refine mk_calW T.f__law_which sc__law_which (by decide) fun f cdv A outer s H E p hz hf => ?_
  have hp : (p.1, p.2) ∈ (L2H.cxH (L2N.CX P w) P w K mg base ["e", "kinds"] "_law_which" (defScope s__law_which) f cdv A outer s H E p).pn := List.mem_cons_self
  refine dss_cons (ds_set 1 (de_frz (de_lst (xs := LB [decide (j = 0), decide (j = 1), decide (j = 2), decide (j = 3)]) (da_cons (de_isiP hp hw.ec hz hf T.m_isinstance (de_v 0 rfl) (de_gref L.g0) (fun _ h => relV_ref h) hw.k0) (da_cons (de_isiP hp hw.ec hz hf T.m_isinstance (de_v 0 rfl) (de_gref L.g1) (fun _ h => relV_ref h) hw.k1) (da_cons (de_isiP hp hw.ec hz hf T.m_isinstance (de_v 0 rfl) (de_gref L.g2) (fun _ h => relV_ref h) hw.k2) (da_cons (de_isiP hp hw.ec hz hf T.m_isinstance (de_v 0 rfl) (de_gref L.g3) (fun _ h => relV_ref h) hw.k3) da_nil)))))))
    (dss_cons (ds_set 1 (de_frz (de_oIs (de_cat (de_var 1 rfl) (de_frz (de_lst (xs := LB [decide (j = 4), decide (j = 5), decide (j = 6)]) (da_cons (de_isiP hp hw.ec hz hf T.m_isinstance (de_v 0 rfl) (de_gref L.g4) (fun _ h => relV_ref h) hw.k4) (da_cons (de_isiP hp hw.ec hz hf T.m_isinstance (de_v 0 rfl) (de_gref L.g5) (fun _ h => relV_ref h) hw.k5) (da_cons (de_isiP hp hw.ec hz hf T.m_isinstance (de_v 0 rfl) (de_gref L.g6) (fun _ h => relV_ref h) hw.k6) da_nil)))))) (ys := LB [decide (j = 0), decide (j = 1), decide (j = 2), decide (j = 3), decide (j = 4), decide (j = 5), decide (j = 6)]) rfl)))
    (dss_ifF (dt_is (dt_w (dw_or (dt_not (dt_val (de_isiP hp hw.ec hz hf T.m_isinstance (de_v 0 rfl) (de_ty T.m_ValueError (T := "ValueError") (by decide +kernel)) (fun _ h => relV_ty h) hw.kv))) fun _ => (dw_or1 (dt_ne (de_count (de_var 1 rfl) de_bl) de_int)))) ?_)
    (dss_one (ds_ret (de_indexB (de_var 1 rfl) de_bl ?_ ?_)))))
  · match j, hj with
    | 0, _ => rfl
    | 1, _ => rfl
    | 2, _ => rfl
    | 3, _ => rfl
    | 4, _ => rfl
    | 5, _ => rfl
    | 6, _ => rfl
    | j + 7, h => omega
  · match j, hj with
    | 0, _ => rfl
    | 1, _ => rfl
    | 2, _ => rfl
    | 3, _ => rfl
    | 4, _ => rfl
    | 5, _ => rfl
    | 6, _ => rfl
    | j + 7, h => omega
  · intro m b hm hb
    have hk : ∀ m : Nat, m < 7 → [decide (j = 0), decide (j = 1), decide (j = 2), decide (j = 3), decide (j = 4), decide (j = 5), decide (j = 6)][m]? = some (decide (j = m)) := fun m hm => by
      match m, hm with
      | 0, _ => rfl
      | 1, _ => rfl
      | 2, _ => rfl
      | 3, _ => rfl
      | 4, _ => rfl
      | 5, _ => rfl
      | 6, _ => rfl
      | m + 7, h => omega
    rw [hk m (by omega)] at hb
    cases hb
    rw [decide_eq_false (by omega)]
    rfl
def noFig (c : Nat) : Bool := !decide (c ∈ (Str.ofString "0123456789").cps.toList)
def HeadOk (w : Str) : Prop := 1 ≤ (tlS w).length ∧ (tlS w).length ≤ 3 ∧ ∀ c ∈ tlS w, 48 ≤ c ∧ c ≤ 57
theorem ls_at {us : List Str} {i : Nat} {x : PyData} (h : (LS us)[i]? = some x) : x = .str (us.getD i blank) := by
  rw [List.getElem?_map] at h
  rw [List.getD_eq_getElem?_getD]
  cases q : us[i]? with
  | none => rw [q] at h; cases h
  | some u => rw [q] at h; cases h; rfl
theorem getDs {us : List Str} {i : Nat} (h : i < us.length) : us[i]? = some (us.getD i blank) := by
  rw [List.getD_eq_getElem?_getD, List.getElem?_eq_getElem h]; rfl
theorem due1 (w : Str) (q : Bool) (h : q = true ↔ ¬HeadOk w) : ((!(decide ((1 : Int) ≤ (w.length : Int)) && decide ((w.length : Int) ≤ 3))) || decide ((0 : Int) < ((signsD ((tlS w).filter noFig)).length : Int))) = q := by
  have hlen : w.length = (tlS w).length := TL.len_tl w
  have hfil : (tlS w).filter noFig = [] ↔ ∀ c ∈ tlS w, 48 ≤ c ∧ c ≤ 57 := by
    rw [List.filter_eq_nil_iff]
    constructor
    · intro z c hc
      have := z c hc
      unfold noFig at this
      rw [Bool.not_eq_true', decide_eq_false_iff_not, Classical.not_not] at this
      exact (figs c).mp this
    · intro z c hc
      unfold noFig
      rw [Bool.not_eq_true', decide_eq_false_iff_not, Classical.not_not]
      exact (figs c).mpr (z c hc)
  have hpos : (0 : Int) < ((signsD ((tlS w).filter noFig)).length : Int) ↔ ¬∀ c ∈ tlS w, 48 ≤ c ∧ c ≤ 57 := by
    rw [← hfil]
    unfold signsD
    rw [List.length_map]
    cases (tlS w).filter noFig with
    | nil => simp
    | cons a l => simp
  rw [Bool.eq_iff_iff, h, Bool.or_eq_true, Bool.not_eq_true', Bool.and_eq_false_iff, decide_eq_false_iff_not, decide_eq_false_iff_not, decide_eq_true_iff, hpos, hlen]
  unfold HeadOk
  constructor
  · rintro ((a | a) | a) ⟨b1, b2, b3⟩
    · omega
    · omega
    · exact a b3
  · intro z
    by_cases b1 : 1 ≤ (tlS w).length
    · by_cases b2 : (tlS w).length ≤ 3
      · exact .inr fun b3 => z ⟨b1, b2, b3⟩
      · exact .inl (.inr (by omega))
    · exact .inl (.inl (by omega))
theorem due2 (w : Str) (q : Bool) (h : q = true ↔ ¬((tlS w).length ≤ 1 ∨ (tlS w).headD 0 ≠ 48)) : (decide ((1 : Int) < (w.length : Int)) && decide ((⟨#[(tlS w).headD 0]⟩ : Str) = Str.ofString "0")) = q := by
  have hlen : w.length = (tlS w).length := TL.len_tl w
  rw [Bool.eq_iff_iff, h, Bool.and_eq_true, decide_eq_true_iff, decide_eq_true_iff, sign0, hlen]
  constructor
  · rintro ⟨a, b⟩ (c | c)
    · omega
    · exact c b
  · intro z
    refine ⟨?_, Classical.byContradiction fun c => z (.inr c)⟩
    have : ¬(tlS w).length ≤ 1 := fun c => z (.inl c)
    omega
theorem sc__law_due : FnScope ["text", "words", "found", "word", "sign"] ["text"] (defScope s__law_due) := ⟨rfl, rfl, rfl, by decide +kernel, rfl, by decide +kernel, by decide +kernel⟩
def S__law_due (ks : List Sl) (r : Re) : Prop := ∃ u : Str, ks = [.d (.str u)] ∧ u.length ≤ 900 ∧ ((ReadOk u ∧ r = .ok (.d (.list (LI (readL u))))) ∨ ¬ReadOk u ∧ r = .ok (.d .none))
theorem i__law_due {u : Str} (hl : u.length ≤ 900) (h : ReadOk u) : S__law_due [.d (.str u)] (.ok (.d (.list (LI (readL u))))) := ⟨u, rfl, hl, .inl ⟨h, rfl⟩⟩
theorem n__law_due {u : Str} (hl : u.length ≤ 900) (h : ¬ReadOk u) : S__law_due [.d (.str u)] (.ok (.d .none)) := ⟨u, rfl, hl, .inr ⟨h, rfl⟩⟩
theorem ok__law_due (T : Txt K mg) : Cal P w K mg base "_law_due" 1 ["text"] S__law_due := by
  refine mk_cal T.f__law_due sc__law_due (by decide) (fun ks r h => by obtain ⟨_, rfl, _⟩ := h; rfl) fun f cdv A outer s_ H E hr ks r h => ?_
  obtain ⟨u, rfl, hl, h⟩ := h
  have hw := words_few u
  have hwl : ∀ i, i < (wordsOf u).length → ((wordsOf u).getD i blank).length ≤ 900 := fun i hi => by
    have := words_len (List.mem_of_getElem? (getDs hi))
    omega
  by_cases h6 : (wordsOf u).length ≤ 6
  · have test : decide (6 < ((LS (wordsOf u)).length : Int)) = false := by
      rw [List.length_map]
      exact decide_eq_false (by omega)
    by_cases hD : ∀ w ∈ wordsOf u, WordOk (tlS w)
    · rcases h with ⟨_, rfl⟩ | ⟨h, _⟩
      · refine does_rt
          (dss_cons (ds_set 1 (de_frz (de_oIs (de_split (de_var 0 rfl) de_str (by decide +kernel) (by omega)) (rfl : LS (Txt.split u " ") = LS (wordsOf u)))))
          (dss_ifF (dt_is (dt_gt (de_len T.m_len (de_var 1 rfl)) de_int) test)
          (dss_cons (ds_set 2 (de_lst (xs := LI []) da_nil))
          (dss_cons (ds_for (g := gName 3) (xs := LS (wordsOf u)) (ρs := fun i => [.d (.str u), .d (.list (LS (wordsOf u))), .o (LI (((wordsOf u).take i).map fun w => wdv (tlS w))), .u, .u]) (ρt := fun i => [.d (.str u), .d (.list (LS (wordsOf u))), .o (LI (((wordsOf u).take i).map fun w => wdv (tlS w))), .d (.str ((wordsOf u).getD i blank)), .u]) rfl (de_var 1 rfl) (pg_name sc__law_due.nd rfl (Or.inl rfl)) (Wk.refl _) (fun i x _ hx => by cases ls_at hx; exact tgo_name (by simp)) (fun i x g1 _ => ?_) .all)
          (dss_frz 2 rfl (dss_one (ds_retD (de_var 2 rfl) ?_)))))))
        · have hi : i < (wordsOf u).length := by simpa using g1
          have h5 := hwl i hi
          have hz5 : ((wordsOf u).getD i blank).length ≤ 100000 := by omega
          have wok := hD _ (List.mem_of_getElem? (getDs hi))
          have hl3 : ((wordsOf u).getD i blank).length ≤ 3 := by rw [TL.len_tl]; exact wok.2.1
          exact go_nx
            (dss_ifF (dt_is (dt_w (dw_or (dt_not (dt_chain op_le op_le de_int (de_lenS T.m_len (de_var 3 rfl) hz5) de_int rd_cmp rd_cmp)) fun _ => (dw_or1 (dt_gt (de_len T.m_len (de_frz (de_filT noFig "sign" 4 rfl (de_var 3 rfl) (blkOk_by (N := ["text", "words", "found", "word", "sign"]) (sc := defScope s__law_due) (by decide +kernel)) (fun _ _ _ _ _ => pg_name sc__law_due.nd rfl (Or.inl rfl)) rfl hz5 (fun x hx X' ⟨_, _, _, _, _, hX⟩ => by subst hX; exact dt_notInS (de_var 4 rfl) de_str) (fun x hx X' ⟨_, _, _, _, _, hX⟩ => by subst hX; exact (de_var 4 rfl))))) de_int)))) (due1 _ false (by simp; exact ⟨wok.1, wok.2.1, wok.2.2.2⟩)))
            (dss_ifF (dt_is (dt_w (dw_and (dt_gt (de_lenS T.m_len (de_var 3 rfl) hz5) de_int) fun q => (dw_and1 (dt_eqS (de_ixS (de_var 3 rfl) de_int hz5 (at0 (of_decide_eq_true q))) de_str)))) (due2 _ false (by simp only [Bool.false_eq_true, false_iff, Classical.not_not]; exact wok.2.2.1)))
            (dss_one (ds_is (ds_appI 2 rfl (de_intS T.m_int (de_var 3 rfl) (int_word wok) (by omega)) (by rw [List.length_map, List.length_take]; omega)) (ρ2 := [.d (.str u), .d (.list (LS (wordsOf u))), .o (LI (((wordsOf u).take (i + 1)).map fun w => wdv (tlS w))), .d (.str ((wordsOf u).getD i blank)), .u]) (by rw [List.take_add_one, getDs hi, List.map_append]; rfl)))))
        · rw [List.length_map, List.take_length]
          rfl
      · exact absurd ⟨h6, hD⟩ h
    · rcases h with ⟨h, _⟩ | ⟨_, rfl⟩
      · exact absurd h.2 hD
      · obtain ⟨m, m1, m2, m3⟩ := first_badG hD
        have hm5 := hwl m m1
        refine does_rt
          (dss_cons (ds_set 1 (de_frz (de_oIs (de_split (de_var 0 rfl) de_str (by decide +kernel) (by omega)) (rfl : LS (Txt.split u " ") = LS (wordsOf u)))))
          (dss_ifF (dt_is (dt_gt (de_len T.m_len (de_var 1 rfl)) de_int) test)
          (dss_cons (ds_set 2 (de_lst (xs := LI []) da_nil))
          (dss_end (ds_for (g := gName 3) (xs := LS (wordsOf u)) (ρs := fun i => [.d (.str u), .d (.list (LS (wordsOf u))), .o (LI (((wordsOf u).take i).map fun w => wdv (tlS w))), .u, .u]) (ρt := fun i => [.d (.str u), .d (.list (LS (wordsOf u))), .o (LI (((wordsOf u).take i).map fun w => wdv (tlS w))), .d (.str ((wordsOf u).getD i blank)), .u]) rfl (de_var 1 rfl) (pg_name sc__law_due.nd rfl (Or.inl rfl)) (Wk.refl _) (fun i x _ hx => by cases ls_at hx; exact tgo_name (by simp)) (fun i x g1 _ => ?_) (.rt (by rw [List.length_map]; exact m1) ?_))))))
        · have hi : i < (wordsOf u).length := by omega
          have h5 := hwl i hi
          have hz5 : ((wordsOf u).getD i blank).length ≤ 100000 := by omega
          have wok := m3 i _ g1 (getDs hi)
          have hl3 : ((wordsOf u).getD i blank).length ≤ 3 := by rw [TL.len_tl]; exact wok.2.1
          exact go_nx
            (dss_ifF (dt_is (dt_w (dw_or (dt_not (dt_chain op_le op_le de_int (de_lenS T.m_len (de_var 3 rfl) hz5) de_int rd_cmp rd_cmp)) fun _ => (dw_or1 (dt_gt (de_len T.m_len (de_frz (de_filT noFig "sign" 4 rfl (de_var 3 rfl) (blkOk_by (N := ["text", "words", "found", "word", "sign"]) (sc := defScope s__law_due) (by decide +kernel)) (fun _ _ _ _ _ => pg_name sc__law_due.nd rfl (Or.inl rfl)) rfl hz5 (fun x hx X' ⟨_, _, _, _, _, hX⟩ => by subst hX; exact dt_notInS (de_var 4 rfl) de_str) (fun x hx X' ⟨_, _, _, _, _, hX⟩ => by subst hX; exact (de_var 4 rfl))))) de_int)))) (due1 _ false (by simp; exact ⟨wok.1, wok.2.1, wok.2.2.2⟩)))
            (dss_ifF (dt_is (dt_w (dw_and (dt_gt (de_lenS T.m_len (de_var 3 rfl) hz5) de_int) fun q => (dw_and1 (dt_eqS (de_ixS (de_var 3 rfl) de_int hz5 (at0 (of_decide_eq_true q))) de_str)))) (due2 _ false (by simp only [Bool.false_eq_true, false_iff, Classical.not_not]; exact wok.2.2.1)))
            (dss_one (ds_is (ds_appI 2 rfl (de_intS T.m_int (de_var 3 rfl) (int_word wok) (by omega)) (by rw [List.length_map, List.length_take]; omega)) (ρ2 := [.d (.str u), .d (.list (LS (wordsOf u))), .o (LI (((wordsOf u).take (i + 1)).map fun w => wdv (tlS w))), .d (.str ((wordsOf u).getD i blank)), .u]) (by rw [List.take_add_one, getDs hi, List.map_append]; rfl)))))
        · have hz5 : ((wordsOf u).getD m blank).length ≤ 100000 := by omega
          have bad := m2 _ (getDs m1)
          by_cases hA : HeadOk ((wordsOf u).getD m blank)
          · exact
              (dss_ifF (dt_is (dt_w (dw_or (dt_not (dt_chain op_le op_le de_int (de_lenS T.m_len (de_var 3 rfl) hz5) de_int rd_cmp rd_cmp)) fun _ => (dw_or1 (dt_gt (de_len T.m_len (de_frz (de_filT noFig "sign" 4 rfl (de_var 3 rfl) (blkOk_by (N := ["text", "words", "found", "word", "sign"]) (sc := defScope s__law_due) (by decide +kernel)) (fun _ _ _ _ _ => pg_name sc__law_due.nd rfl (Or.inl rfl)) rfl hz5 (fun x hx X' ⟨_, _, _, _, _, hX⟩ => by subst hX; exact dt_notInS (de_var 4 rfl) de_str) (fun x hx X' ⟨_, _, _, _, _, hX⟩ => by subst hX; exact (de_var 4 rfl))))) de_int)))) (due1 _ false (by simp; exact hA)))
              (dss_ifT (dt_is (dt_w (dw_and (dt_gt (de_lenS T.m_len (de_var 3 rfl) hz5) de_int) fun q => (dw_and1 (dt_eqS (de_ixS (de_var 3 rfl) de_int hz5 (at0 (of_decide_eq_true q))) de_str)))) (due2 _ true (by simp only [true_iff]; exact fun z => bad ⟨hA.1, hA.2.1, z, hA.2.2⟩)))
              (dss_one (ds_ret de_non))))
          · exact (dss_ifT (dt_is (dt_w (dw_or (dt_not (dt_chain op_le op_le de_int (de_lenS T.m_len (de_var 3 rfl) hz5) de_int rd_cmp rd_cmp)) fun _ => (dw_or1 (dt_gt (de_len T.m_len (de_frz (de_filT noFig "sign" 4 rfl (de_var 3 rfl) (blkOk_by (N := ["text", "words", "found", "word", "sign"]) (sc := defScope s__law_due) (by decide +kernel)) (fun _ _ _ _ _ => pg_name sc__law_due.nd rfl (Or.inl rfl)) rfl hz5 (fun x hx X' ⟨_, _, _, _, _, hX⟩ => by subst hX; exact dt_notInS (de_var 4 rfl) de_str) (fun x hx X' ⟨_, _, _, _, _, hX⟩ => by subst hX; exact (de_var 4 rfl))))) de_int)))) (due1 _ true (by simp only [true_iff]; exact hA))) (dss_one (ds_ret de_non)))
  · rcases h with ⟨h, _⟩ | ⟨_, rfl⟩
    · exact absurd h.1 h6
    · have test : decide (6 < ((LS (wordsOf u)).length : Int)) = true := by
        rw [List.length_map]
        exact decide_eq_true (by omega)
      exact does_rt
          (dss_cons (ds_set 1 (de_frz (de_oIs (de_split (de_var 0 rfl) de_str (by decide +kernel) (by omega)) (rfl : LS (Txt.split u " ") = LS (wordsOf u)))))
          (dss_ifT (dt_is (dt_gt (de_len T.m_len (de_var 1 rfl)) de_int) test) (dss_one (ds_ret de_non))))
def signs1 : Str := "0123456789 +-_\t\n"
def signs2 : Str := (" !\"#$&'()*+,-./0123456789:;<=>?@ABCDEFGHIJKLMNOPQRSTUVWXYZ[\\]^_" : Str) ++ ("abcdefghijklmnopqrstuvwxyz{|}~" : Str)
def signOf (c w : Int) : Nat := if w % 2 = 0 then (tlS signs1).getD (c % (16 : Int)).toNat 0 else (tlS signs2).getD (c % (signs2.length : Int)).toNat 0
theorem at_mod {l : List Nat} {n : Int} (h : n = (l.length : Int)) (h0 : 0 < n) (c : Int) : atI l (c % n) = some (l.getD (c % n).toNat 0) := by
  have h1 := Int.emod_nonneg c (b := n) (by omega)
  have h2 := Int.emod_lt_of_pos c h0
  generalize c % n = i at *
  obtain ⟨k, rfl⟩ : ∃ k : Nat, i = k := ⟨i.toNat, by omega⟩
  unfold atI ixN
  rw [if_pos (by omega), if_pos (by omega)]
  show l[k]? = _
  rw [Int.toNat_natCast, List.getD_eq_getElem?_getD, List.getElem?_eq_getElem (by omega)]
  rfl
theorem sc__law_sign : FnScope ["cell", "way", "some"] ["cell", "way"] (defScope s__law_sign) := ⟨rfl, rfl, rfl, by decide +kernel, rfl, by decide +kernel, by decide +kernel⟩
def S__law_sign (ks : List Sl) (r : Re) : Prop := ∃ c w : Int, ks = [.d (.int c), .d (.int w)] ∧ r = .ok (.d (.str ⟨#[signOf c w]⟩))
theorem i__law_sign {c w : Int} : S__law_sign [.d (.int c), .d (.int w)] (.ok (.d (.str ⟨#[signOf c w]⟩))) := ⟨c, w, rfl, rfl⟩
theorem ok__law_sign (T : Txt K mg) : Cal P w K mg base "_law_sign" 1 ["cell", "way"] S__law_sign := by
  refine mk_cal T.f__law_sign sc__law_sign (by decide) (fun ks r h => by obtain ⟨_, _, rfl, _⟩ := h; rfl) fun f cdv A outer s_ H E hr ks r h => ?_
  obtain ⟨c, w, rfl, rfl⟩ := h
  have l1 : signs1.length = 16 := by decide +kernel
  have l2 : signs2.length = 92 ∨ signs2.length = 93 ∨ signs2.length = 94 := by decide +kernel
  have l3 : (Str.ofString " !\"#$&'()*+,-./0123456789:;<=>?@ABCDEFGHIJKLMNOPQRSTUVWXYZ[\\]^_").length + (Str.ofString "abcdefghijklmnopqrstuvwxyz{|}~").length ≤ 100000 := by decide +kernel
  have t1 : signs1.length = (tlS signs1).length := TL.len_tl _
  have t2 : signs2.length = (tlS signs2).length := TL.len_tl _
  refine does_rt
    (dss_ife (dt_eq (de_mod (de_var 1 rfl) de_int (by decide)) de_int) (fun q =>
      (dss_one (ds_retD (de_ixS (u := signs1) (c0 := (tlS signs1).getD (c % (16 : Int)).toNat 0) de_str (de_mod (de_var 0 rfl) de_int (by decide)) (by omega) (at_mod (by rw [← t1, l1]; rfl) (by decide) c)) ?_))) fun q =>
    (dss_cons (ds_set 2 de_str)
    (dss_cons (ds_set 2 (de_is (de_addS (de_var 2 rfl) de_str l3) (y := .str signs2) rfl))
    (dss_one (ds_retD (de_ixS (u := signs2) (c0 := (tlS signs2).getD (c % (signs2.length : Int)).toNat 0) (de_var 2 rfl) (de_mod (de_var 0 rfl) (de_lenS T.m_len (de_var 2 rfl) (by omega)) (by omega)) (by omega) (at_mod (by rw [← t2]) (by omega) c)) ?_)))))
  · have q : w % 2 = 0 := of_decide_eq_true q
    unfold signOf
    rw [if_pos q]
  · have q : ¬w % 2 = 0 := of_decide_eq_false q
    unfold signOf
    rw [if_neg q]
def odds1 : List Str := ["", " ", "0", "00", "01", "999", "1000", "0 0", "1  2", " 1", "1 ", "1_0", "+1", "-1", "1\t2", "1\n", "1.0"]
def odds2 : List Str := ["1 2 3 4 5 6", "1 2 3 4 5 6 7", "0 1 2 3 4 5", Txt.mul "9" 30, "1,2"]
def odds : List Str := odds1 ++ odds2
def oddT (c : Int) : Str := odds.getD (c % (22 : Int)).toNat blank
theorem oddT_len (c : Int) : (oddT c).length ≤ 100 := by
  have h : odds.all (fun u => decide (u.length ≤ 100)) = true := by decide +kernel
  have h1 := Int.emod_nonneg c (b := 22) (by omega)
  have h2 := Int.emod_lt_of_pos c (b := 22) (by omega)
  have hl : odds.length = 22 := rfl
  unfold oddT
  rw [List.getD_eq_getElem?_getD, List.getElem?_eq_getElem (by omega)]
  exact of_decide_eq_true (List.all_eq_true.mp h _ (List.getElem_mem _))
theorem mul9 : MulOk (Str.ofString "9") 30 := ⟨by decide, fun _ _ => by decide +kernel, fun _ _ => by decide +kernel⟩
theorem ls_cat (a b : List Str) : LS a ++ LS b = LS (a ++ b) := by unfold LS; rw [List.map_append]
theorem at_modS (c : Int) : atI (LS odds) (c % (22 : Int)) = some (.str (oddT c)) := by
  have h1 := Int.emod_nonneg c (b := 22) (by omega)
  have h2 := Int.emod_lt_of_pos c (b := 22) (by omega)
  have hl : odds.length = 22 := rfl
  refine atI_of h1 ?_
  unfold oddT
  rw [List.getElem?_map, List.getD_eq_getElem?_getD, List.getElem?_eq_getElem (by omega)]
  rfl
theorem lodd : PyData.int (((LS odds).length : Nat) : Int) = .int 22 := rfl
theorem sc__law_odd : FnScope ["cell", "some"] ["cell"] (defScope s__law_odd) := ⟨rfl, rfl, rfl, by decide +kernel, rfl, by decide +kernel, by decide +kernel⟩
def S__law_odd (ks : List Sl) (r : Re) : Prop := ∃ c : Int, ks = [.d (.int c)] ∧ r = .ok (.d (.str (oddT c)))
theorem i__law_odd {c : Int} : S__law_odd [.d (.int c)] (.ok (.d (.str (oddT c)))) := ⟨c, rfl, rfl⟩
theorem ok__law_odd (T : Txt K mg) : Cal P w K mg base "_law_odd" 1 ["cell"] S__law_odd := by
  refine mk_cal T.f__law_odd sc__law_odd (by decide) (fun ks r h => by obtain ⟨_, rfl, _⟩ := h; rfl) fun f cdv A outer s_ H E hr ks r h => ?_
  obtain ⟨c, rfl, rfl⟩ := h
  refine does_rt ?_
  refine dss_cons (ρ1 := [.d (.int c), .d (.list (LS odds1))]) ?_ ?_
  rotate_left
  refine dss_cons (ρ1 := [.d (.int c), .d (.list (LS odds))]) ?_ ?_
  rotate_left
  · refine dss_one ?_
    refine ds_ret ?_
    refine de_ixL (i := c % 22) (xs := LS odds) ?_ ?_ (at_modS c)
    · exact de_var 1 rfl
    · refine de_mod (de_var 0 rfl) ?_ (by decide)
      refine de_is (x := .int (((LS odds).length : Nat) : Int)) ?_ lodd
      exact de_len T.m_len (de_var 1 rfl)
  · refine ds_set (k := .d (.list (LS odds1))) 1 ?_
    with_reducible refine de_frz ?_
    with_reducible refine de_lst ?_ ?_
    · show DA _ _ _ [.d (.str ""), .d (.str " "), .d (.str "0"), .d (.str "00"), .d (.str "01"), .d (.str "999"), .d (.str "1000"), .d (.str "0 0"), .d (.str "1  2"), .d (.str " 1"), .d (.str "1 "), .d (.str "1_0"), .d (.str "+1"), .d (.str "-1"), .d (.str "1\t2"), .d (.str "1\n"), .d (.str "1.0")]
      iterate 17 ((with_reducible refine da_cons de_str ?_ ?_); rotate_left; rfl)
      exact da_nil
    · show 17 ≤ 100000; decide
  · refine ds_set (k := .d (.list (LS odds))) 1 ?_
    with_reducible refine de_frz ?_
    refine de_oIs (de_cat (xs := LS odds1) (ys := LS odds2) (de_var 1 rfl) ?_ (by show 17 + 5 ≤ 100000; decide)) (ls_cat odds1 odds2)
    with_reducible refine de_frz ?_
    with_reducible refine de_lst ?_ ?_
    · show DA _ _ _ [.d (.str "1 2 3 4 5 6"), .d (.str "1 2 3 4 5 6 7"), .d (.str "0 1 2 3 4 5"), .d (.str (Txt.mul "9" 30)), .d (.str "1,2")]
      iterate 3 ((with_reducible refine da_cons de_str ?_ ?_); rotate_left; rfl)
      iterate 1 ((with_reducible refine da_cons (de_mulS de_str de_int mul9) ?_ ?_); rotate_left; rfl)
      iterate 1 ((with_reducible refine da_cons de_str ?_ ?_); rotate_left; rfl)
      exact da_nil
    · show 5 ≤ 100000; decide
theorem sc_law : FnScope ["script", "numbers", "k", "cell", "text", "number", "way", "at", "sign", "due", "found", "which", "e"] ["script"] (defScope s_law) := ⟨rfl, rfl, rfl, by decide +kernel, rfl, by decide +kernel, by decide +kernel⟩
def D4 (c : Int) : Int := ([10, 100, 1000, 1000] : List Int).getD (c % 4).toNat 0
theorem D4_ok (c : Int) : 1 ≤ D4 c ∧ D4 c ≤ 1000 := by
  unfold D4
  have h : c % 4 = 0 ∨ c % 4 = 1 ∨ c % 4 = 2 ∨ c % 4 = 3 := by omega
  rcases h with h | h | h | h <;> rw [h] <;> decide
def nums (ns : List Int) (i : Nat) : List Int := (List.range i).map fun j => cell ns (1 + (j : Nat)) / 4 % D4 (cell ns (1 + (j : Nat)))
theorem nums_in (ns : List Int) (i : Nat) : ∀ x ∈ nums ns i, 0 ≤ x ∧ x ≤ 999 := fun x hx => by
  obtain ⟨j, _, rfl⟩ := List.mem_map.mp hx
  have := D4_ok (cell ns (1 + (j : Nat)))
  have h1 := Int.emod_nonneg (cell ns (1 + (j : Nat)) / 4) (b := D4 (cell ns (1 + (j : Nat)))) (by omega)
  have h2 := Int.emod_lt_of_pos (cell ns (1 + (j : Nat)) / 4) (b := D4 (cell ns (1 + (j : Nat)))) (by omega)
  show 0 ≤ cell ns (1 + (j : Nat)) / 4 % D4 (cell ns (1 + (j : Nat))) ∧ cell ns (1 + (j : Nat)) / 4 % D4 (cell ns (1 + (j : Nat))) ≤ 999
  omega
theorem nums_len (ns : List Int) (i : Nat) : (nums ns i).length = i := by simp [nums]
theorem nums_succ (ns : List Int) (i : Nat) : nums ns (i + 1) = nums ns i ++ [cell ns (1 + (i : Nat)) / 4 % D4 (cell ns (1 + (i : Nat)))] := by
  unfold nums
  rw [List.range_succ, List.map_append]
  rfl
theorem lg2 {n : Int} (h : 0 ≤ n ∧ n ≤ 999) : n.natAbs.log2 < 1920 := by
  have h1 : n.natAbs < 2 ^ 1920 := Nat.lt_of_le_of_lt (by omega : n.natAbs ≤ 999) (by decide +kernel)
  by_cases h0 : n.natAbs = 0
  · rw [h0]; decide
  · exact (Nat.log2_lt h0).mpr h1
theorem cut_len (u : Str) (lo hi : Option Int) : (cutS u lo hi).length ≤ u.length := by
  rw [TL.len_tl, tl_cut, List.length_take, List.length_drop, TL.len_tl u]
  omega
theorem app_len (u w : Str) : (u ++ w).length = u.length + w.length := by
  rw [TL.len_tl, TL.tl_append, List.length_append, ← TL.len_tl, ← TL.len_tl]
theorem text_pos {ns : List Int} (h : Few ns) : 1 ≤ (textOf ns).length := by
  obtain ⟨h1, h2, h3⟩ := h
  match ns, h1, h3 with
  | n :: ns, _, h3 =>
    have e := split_text (ns := n :: ns) h3 (by simp)
    have hm : wd n ∈ wordsOf (textOf (n :: ns)) := by
      show wd n ∈ Txt.split (textOf (n :: ns)) blank
      rw [e]
      exact List.mem_cons_self
    have a := words_len hm
    have b := (wd_ok (h3 n List.mem_cons_self)).1.1
    have c : (wd n).length = (tlS (wd n)).length := TL.len_tl _
    omega
def tx1 (w a : Int) (t : Str) : Str := if w = 1 then cutS t none (some a) ++ cutS t (some (a + 1)) none else t
def tx2 (w a : Int) (s t : Str) : Str := if w = 2 then cutS t none (some a) ++ s ++ cutS t (some a) none else t
def tx3 (w a : Int) (s t : Str) : Str := if w = 3 then cutS t none (some a) ++ s ++ cutS t (some (a + 1)) none else t
def tx4 (c d : Int) (t : Str) : Str := if c % 8 = 1 then oddT d else t
theorem tx1_len (w a : Int) (t : Str) : (tx1 w a t).length ≤ 2 * t.length := by
  unfold tx1
  split
  · rw [app_len]
    have h1 := cut_len t none (some a)
    have h2 := cut_len t (some (a + 1)) none
    omega
  · omega
theorem tx2_len (w a : Int) (s t : Str) : (tx2 w a s t).length ≤ 2 * t.length + s.length := by
  unfold tx2
  split
  · rw [app_len, app_len]
    have h1 := cut_len t none (some a)
    have h2 := cut_len t (some a) none
    omega
  · omega
theorem tx3_len (w a : Int) (s t : Str) : (tx3 w a s t).length ≤ 2 * t.length + s.length := by
  unfold tx3
  split
  · rw [app_len, app_len]
    have h1 := cut_len t none (some a)
    have h2 := cut_len t (some (a + 1)) none
    omega
  · omega
theorem ok_law {f : Addr} {fd : FuncData} (F : Fun K "law" "law" s_law f fd) (T : Txt K mg) : FnOk P w K mg base (L2N.CX P w) 6 f fd ["script"] (spLaw K) := by
  refine mk_fn F sc_law (by decide) (fun ks r h => by obtain ⟨_, rfl, _⟩ := h; rfl) fun cdv A outer s_ H E hr ks r h => ?_
  obtain ⟨ns, rfl, hl, rfl⟩ := h
  obtain ⟨CT, C0, C1, C2, C3, C4, C5, C6, L⟩ := T.cls
  obtain ⟨m, em, hm1, hm2⟩ : ∃ m : Nat, (1 + cell ns 0 % 6).toNat = m ∧ 1 ≤ m ∧ m ≤ 6 := ⟨_, rfl, by omega, by omega⟩
  obtain ⟨xs, ex, hxl, hxi⟩ : ∃ xs, nums ns m = xs ∧ xs.length = m ∧ ∀ x ∈ xs, 0 ≤ x ∧ x ≤ 999 := ⟨_, rfl, nums_len _ _, nums_in _ _⟩
  have hf : Few xs := ⟨by omega, by omega, hxi⟩
  obtain ⟨t0, e0, hp, ht⟩ : ∃ t0, textOf xs = t0 ∧ 1 ≤ t0.length ∧ t0.length ≤ 100 := ⟨_, rfl, text_pos hf, text_len hf⟩
  obtain ⟨wy, ewy⟩ : ∃ wy, cell ns 10 % 4 = wy := ⟨_, rfl⟩
  obtain ⟨at_, eat⟩ : ∃ a, cell ns 11 % (t0.length : Int) = a := ⟨_, rfl⟩
  obtain ⟨sg, esg, hsg⟩ : ∃ sg : Str, (⟨#[signOf (cell ns 12) (cell ns 13)]⟩ : Str) = sg ∧ sg.length = 1 := ⟨_, rfl, rfl⟩
  obtain ⟨t1, e1, h1⟩ : ∃ t1, tx1 wy at_ t0 = t1 ∧ t1.length ≤ 200 := ⟨_, rfl, by have := tx1_len wy at_ t0; omega⟩
  obtain ⟨t2, e2, h2⟩ : ∃ t2, tx2 wy at_ sg t1 = t2 ∧ t2.length ≤ 401 := ⟨_, rfl, by have := tx2_len wy at_ sg t1; omega⟩
  obtain ⟨t3, e3, h3⟩ : ∃ t3, tx3 wy at_ sg t2 = t3 ∧ t3.length ≤ 803 := ⟨_, rfl, by have := tx3_len wy at_ sg t2; omega⟩
  obtain ⟨t4, e4, h4⟩ : ∃ t4, tx4 (cell ns 14) (cell ns 15) t3 = t4 ∧ t4.length ≤ 900 := ⟨_, rfl, by
    unfold tx4
    split
    · have := oddT_len (cell ns 15); omega
    · omega⟩
  have l1a := cut_len t0 none (some at_)
  have l1b := cut_len t0 (some (at_ + 1)) none
  have l2a := cut_len t1 none (some at_)
  have l2b := cut_len t1 (some at_) none
  have l2c := app_len (cutS t1 none (some at_)) sg
  have l3a := cut_len t2 none (some at_)
  have l3b := cut_len t2 (some (at_ + 1)) none
  have l3c := app_len (cutS t2 none (some at_)) sg
  refine does_rt
    (dss_cons (ds_set 1 (de_lst (xs := LI (nums ns 0)) da_nil (by show 0 ≤ 100000; decide)))
    (dss_cons (ds_for1 (g := gName 2) (ρs := fun i => [.q ns, .o (LI (nums ns i)), .u, .u, .u, .u, .u, .u, .u, .u, .u, .u, .u]) (ρt := fun i => [.q ns, .o (LI (nums ns i)), .d (.int (0 + i)), .u, .u, .u, .u, .u, .u, .u, .u, .u, .u]) (nn := m) rfl T.m_range (de_add de_int (de_mod (de_call (ok__law_cell T) (hr.mono (by decide)) (da_cons (de_varQ 0 rfl) (da_cons de_int da_nil)) (i__law_cell (by decide))) de_int (by decide))) (by omega) em.symm (pg_name sc_law.nd rfl (Or.inl rfl)) (Wk.refl _) (fun i _ _ => tgo_name (by simp)) (fun i g1 g2 => go_nx
        (dss_cons (ds_set 3 (de_is (de_call (ok__law_cell T) (hr.mono (by decide)) (da_cons (de_varQ 0 rfl) (da_cons (de_add de_int (de_var 2 rfl)) da_nil)) (i__law_cell (by omega))) (y := .int (cell ns (1 + (i : Nat)))) (by rw [Int.zero_add])))
        (dss_one (ds_is (ds_appI 1 rfl (de_mod (de_div (de_var 3 rfl) de_int ⟨by decide, by decide⟩) (de_ixL (x := .int (D4 (cell ns (1 + (i : Nat))))) (de_frz (de_lst (xs := LI [10, 100, 1000, 1000]) (da_cons de_int (da_cons de_int (da_cons de_int (da_cons de_int da_nil)))))) (de_mod (de_var 3 rfl) de_int (by decide)) (atI_LI (k := (cell ns (1 + (i : Nat)) % 4).toNat) (by omega) (by show _ < 4; omega))) (by have := D4_ok (cell ns (1 + (i : Nat))); omega)) (by rw [nums_len]; omega)) (ρ2 := [.q ns, .o (LI (nums ns (i + 1))), .d (.int (0 + i)), .d (.int (cell ns (1 + (i : Nat)))), .u, .u, .u, .u, .u, .u, .u, .u, .u]) (by rw [nums_succ]; rfl))))) .all)
    (dss_frz 1 rfl (dss_pre (ρ' := [.q ns, .d (.list (LI xs)), .u, .u, .u, .u, .u, .u, .u, .u, .u, .u, .u]) (by rw [← ex]; exact Wk.refl _)
    (dss_cons (ds_set 4 (de_is (de_join de_str (de_is (de_frz (de_mapI (fun n => .str (wd n)) "number" 5 rfl (de_var 1 rfl) (blkOk_by (N := ["script", "numbers", "k", "cell", "text", "number", "way", "at", "sign", "due", "found", "which", "e"]) (sc := defScope s_law) (by decide +kernel)) (fun _ _ _ _ _ => pg_name sc_law.nd rfl (Or.inl rfl)) rfl ?_ (fun x hx X' ⟨_, _, _, _, _, hX⟩ => by subst hX; exact (de_strI T.m_str (de_var 5 rfl) (lg2 (hxi x hx)))))) (y := .list (LS (xs.map wd))) ?_) ?_) (y := .str t0) (congrArg PyData.str e0)))
    (dss_cons (ds_set 6 (de_is (de_mod (de_call (ok__law_cell T) (hr.mono (by decide)) (da_cons (de_varQ 0 rfl) (da_cons de_int da_nil)) (i__law_cell (by decide))) de_int (by decide)) (congrArg PyData.int ewy)))
    (dss_cons (ds_set 7 (de_is (de_mod (de_call (ok__law_cell T) (hr.mono (by decide)) (da_cons (de_varQ 0 rfl) (da_cons de_int da_nil)) (i__law_cell (by decide))) (de_lenS T.m_len (de_var 4 rfl) (by omega)) (by omega)) (congrArg PyData.int eat)))
    (dss_cons (ds_set 8 (de_is (de_call (ok__law_sign T) (hr.mono (by decide)) (da_cons (de_call (ok__law_cell T) (hr.mono (by decide)) (da_cons (de_varQ 0 rfl) (da_cons de_int da_nil)) (i__law_cell (by decide))) (da_cons (de_call (ok__law_cell T) (hr.mono (by decide)) (da_cons (de_varQ 0 rfl) (da_cons de_int da_nil)) (i__law_cell (by decide))) da_nil)) i__law_sign) (congrArg PyData.str esg)))
    (dss_cons (ρ1 := [.q ns, .d (.list (LI xs)), .u, .u, .d (.str t1), .u, .d (.int wy), .d (.int at_), .d (.str sg), .u, .u, .u, .u]) ?_
    (dss_cons (ρ1 := [.q ns, .d (.list (LI xs)), .u, .u, .d (.str t2), .u, .d (.int wy), .d (.int at_), .d (.str sg), .u, .u, .u, .u]) ?_
    (dss_cons (ρ1 := [.q ns, .d (.list (LI xs)), .u, .u, .d (.str t3), .u, .d (.int wy), .d (.int at_), .d (.str sg), .u, .u, .u, .u]) ?_
    (dss_cons (ρ1 := [.q ns, .d (.list (LI xs)), .u, .u, .d (.str t4), .u, .d (.int wy), .d (.int at_), .d (.str sg), .u, .u, .u, .u]) ?_
    ?_))))))))))))
  · omega
  · unfold LS
    rw [List.map_map]; rfl
  · have := sum_le (us := xs.map wd) (b := 3) fun u hu => by
      obtain ⟨n, hn, rfl⟩ := List.mem_map.mp hu
      exact wd_len (hxi n hn)
    rw [List.length_map] at this ⊢
    have e : (Str.ofString " ").length = 1 := by decide +kernel
    show _ + xs.length * (Str.ofString " ").length ≤ _
    rw [e]
    omega
  · refine ds_if (dt_eq (de_var 6 rfl) de_int) (fun q => dss_one (ds_set 4 (de_is (de_addS (de_slTS (de_var 4 rfl) (de_var 7 rfl) (by omega)) (de_slFS (de_var 4 rfl) (de_add (de_var 7 rfl) de_int) (by omega)) (by omega)) (congrArg PyData.str ?_)))) (fun q => dss_nil_is ?_)
    · rw [← e1]
      unfold tx1
      rw [if_pos (of_decide_eq_true q)]
    · rw [← e1]
      unfold tx1
      rw [if_neg (of_decide_eq_false q)]
      rfl
  · refine ds_if (dt_eq (de_var 6 rfl) de_int) (fun q => dss_one (ds_set 4 (de_is (de_addS (de_addS (de_slTS (de_var 4 rfl) (de_var 7 rfl) (by omega)) (de_var 8 rfl) (by omega)) (de_slFS (de_var 4 rfl) (de_var 7 rfl) (by omega)) (by omega)) (congrArg PyData.str ?_)))) (fun q => dss_nil_is ?_)
    · rw [← e2]
      unfold tx2
      rw [if_pos (of_decide_eq_true q)]
    · rw [← e2]
      unfold tx2
      rw [if_neg (of_decide_eq_false q)]
  · refine ds_if (dt_eq (de_var 6 rfl) de_int) (fun q => dss_one (ds_set 4 (de_is (de_addS (de_addS (de_slTS (de_var 4 rfl) (de_var 7 rfl) (by omega)) (de_var 8 rfl) (by omega)) (de_slFS (de_var 4 rfl) (de_add (de_var 7 rfl) de_int) (by omega)) (by omega)) (congrArg PyData.str ?_)))) (fun q => dss_nil_is ?_)
    · rw [← e3]
      unfold tx3
      rw [if_pos (of_decide_eq_true q)]
    · rw [← e3]
      unfold tx3
      rw [if_neg (of_decide_eq_false q)]
  · refine ds_if (dt_eq (de_mod (de_call (ok__law_cell T) (hr.mono (by decide)) (da_cons (de_varQ 0 rfl) (da_cons de_int da_nil)) (i__law_cell (by decide))) de_int (by decide)) de_int) (fun q => dss_one (ds_set 4 (de_is (de_call (ok__law_odd T) (hr.mono (by decide)) (da_cons (de_call (ok__law_cell T) (hr.mono (by decide)) (da_cons (de_varQ 0 rfl) (da_cons de_int da_nil)) (i__law_cell (by decide))) da_nil) i__law_odd) (congrArg PyData.str ?_)))) (fun q => dss_nil_is ?_)
    · rw [← e4]
      unfold tx4
      rw [if_pos (of_decide_eq_true q)]
    · rw [← e4]
      unfold tx4
      rw [if_neg (of_decide_eq_false q)]
  · by_cases hR : ReadOk t4
    · have hrl : (readL t4).length ≤ 6 := by
        unfold readL
        rw [List.length_map]
        exact hR.1
      exact
        (dss_cons (ds_set 9 (de_call (ok__law_due T) (hr.mono (by decide)) (da_cons (de_var 4 rfl) da_nil) (i__law_due h4 hR)))
        (dss_cons (ds_set 10 de_non)
        (dss_cons (ds_set 11 (de_neg de_int))
        (dss_cons (ds_tryN (ie := 12) rfl rfl L.gT (fun pn xe => dss_one (ds_set 10 (de_frz (de_call (ok_read T) (hr.mono (by decide)) (da_cons (de_var 4 rfl) da_nil) (i_read h4 hR))))) (fun _ _ z => nomatch z))
        (dss_ifF (dt_isN (de_var 9 rfl))
        (dss_one (ds_retD (de_and (de_eq (de_var 11 rfl) (de_neg de_int)) fun _ => (de_one (de_call (ok__law_ints T) (hr.mono (by decide)) (da_cons (de_var 10 rfl) (da_cons (de_var 9 rfl) da_nil)) (i__law_ints (by omega))))) rfl)))))))
    · exact
        (dss_cons (ds_set 9 (de_call (ok__law_due T) (hr.mono (by decide)) (da_cons (de_var 4 rfl) da_nil) (n__law_due h4 hR)))
        (dss_cons (ds_set 10 de_non)
        (dss_cons (ds_set 11 (de_neg de_int))
        (dss_cons (ds_tryX (ie := 12) (iw := 11) (lv := 1) rfl rfl (hr.mono (by decide)) L.gT L.t6 (ok__law_which T L L.w6 (by decide)) (fun pn xe => dss_one (ds_setX 10 (de_call (ok_read T) (hr.mono (by decide)) (da_cons (de_var 4 rfl) da_nil) (x_read h4 hR L.g6)))) (by simp) (by simp))
        (dss_ifT (dt_isN (de_var 9 rfl))
        (dss_one (ds_retD (de_and (de_isN (de_var 10 rfl)) fun _ => (de_one (de_eq (de_var 11 rfl) de_int))) rfl)))))))
theorem all_mk {P : Program} {w : World} {K : PySem.W.Frag} {h : Heap} {mg : Str → Option Value} {fa f1 f2 f3 f4 f5 f6 f7 f8 f9 C0 C1 C2 C3 C4 C5 C6 C7 : Addr} (X : K.In h) (G : h.Ns mainGlobals mg) (hfa : mg "law" = some (.ref fa))
    {od1 od2 od3 od4 od5 od6 od7 od8 od9 an1 an2 an3 an4 an5 an6 an7 an8 an9 : Option Addr} {sl1 sl2 sl3 sl4 sl5 sl6 sl7 sl8 sl9 : Array (Option Value)} {oc1 kV1 dc1 pm1 cd1 ct1 oc2 kV2 dc2 pm2 cd2 ct2 oc3 kV3 dc3 pm3 cd3 ct3 oc4 kV4 dc4 pm4 cd4 ct4 oc5 kV5 dc5 pm5 cd5 ct5 oc6 kV6 dc6 pm6 cd6 ct6 oc7 kV7 dc7 pm7 cd7 ct7 oc8 kV8 dc8 pm8 cd8 ct8 oc9 kV9 dc9 pm9 cd9 ct9 : Value} {tk_FIGURES : Tok}
    (a1 : PySem.W.nsIn K mainGlobals "number_of" = some (some (.ref f1)))
    (l1 : K.lookup f1 = some ⟨oc1, od1, .func (PySem.W.fnOf "number_of" "number_of" (defArgs s_number_of) (defBody s_number_of) (defScope s_number_of) .none kV1 dc1 pm1 an1 cd1 ct1), sl1⟩)
    (c1 : PySem.W.codeIn K cd1 "number_of" = true)
    (k1 : PySem.W.keepIn K (.ref f1) = true)
    (a2 : PySem.W.nsIn K mainGlobals "read" = some (some (.ref f2)))
    (l2 : K.lookup f2 = some ⟨oc2, od2, .func (PySem.W.fnOf "read" "read" (defArgs s_read) (defBody s_read) (defScope s_read) .none kV2 dc2 pm2 an2 cd2 ct2), sl2⟩)
    (c2 : PySem.W.codeIn K cd2 "read" = true)
    (k2 : PySem.W.keepIn K (.ref f2) = true)
    (a3 : PySem.W.nsIn K mainGlobals "_law_cell" = some (some (.ref f3)))
    (l3 : K.lookup f3 = some ⟨oc3, od3, .func (PySem.W.fnOf "_law_cell" "_law_cell" (defArgs s__law_cell) (defBody s__law_cell) (defScope s__law_cell) .none kV3 dc3 pm3 an3 cd3 ct3), sl3⟩)
    (c3 : PySem.W.codeIn K cd3 "_law_cell" = true)
    (k3 : PySem.W.keepIn K (.ref f3) = true)
    (a4 : PySem.W.nsIn K mainGlobals "_law_ints" = some (some (.ref f4)))
    (l4 : K.lookup f4 = some ⟨oc4, od4, .func (PySem.W.fnOf "_law_ints" "_law_ints" (defArgs s__law_ints) (defBody s__law_ints) (defScope s__law_ints) .none kV4 dc4 pm4 an4 cd4 ct4), sl4⟩)
    (c4 : PySem.W.codeIn K cd4 "_law_ints" = true)
    (k4 : PySem.W.keepIn K (.ref f4) = true)
    (a5 : PySem.W.nsIn K mainGlobals "_law_which" = some (some (.ref f5)))
    (l5 : K.lookup f5 = some ⟨oc5, od5, .func (PySem.W.fnOf "_law_which" "_law_which" (defArgs s__law_which) (defBody s__law_which) (defScope s__law_which) .none kV5 dc5 pm5 an5 cd5 ct5), sl5⟩)
    (c5 : PySem.W.codeIn K cd5 "_law_which" = true)
    (k5 : PySem.W.keepIn K (.ref f5) = true)
    (a6 : PySem.W.nsIn K mainGlobals "_law_due" = some (some (.ref f6)))
    (l6 : K.lookup f6 = some ⟨oc6, od6, .func (PySem.W.fnOf "_law_due" "_law_due" (defArgs s__law_due) (defBody s__law_due) (defScope s__law_due) .none kV6 dc6 pm6 an6 cd6 ct6), sl6⟩)
    (c6 : PySem.W.codeIn K cd6 "_law_due" = true)
    (k6 : PySem.W.keepIn K (.ref f6) = true)
    (a7 : PySem.W.nsIn K mainGlobals "_law_sign" = some (some (.ref f7)))
    (l7 : K.lookup f7 = some ⟨oc7, od7, .func (PySem.W.fnOf "_law_sign" "_law_sign" (defArgs s__law_sign) (defBody s__law_sign) (defScope s__law_sign) .none kV7 dc7 pm7 an7 cd7 ct7), sl7⟩)
    (c7 : PySem.W.codeIn K cd7 "_law_sign" = true)
    (k7 : PySem.W.keepIn K (.ref f7) = true)
    (a8 : PySem.W.nsIn K mainGlobals "_law_odd" = some (some (.ref f8)))
    (l8 : K.lookup f8 = some ⟨oc8, od8, .func (PySem.W.fnOf "_law_odd" "_law_odd" (defArgs s__law_odd) (defBody s__law_odd) (defScope s__law_odd) .none kV8 dc8 pm8 an8 cd8 ct8), sl8⟩)
    (c8 : PySem.W.codeIn K cd8 "_law_odd" = true)
    (k8 : PySem.W.keepIn K (.ref f8) = true)
    (a9 : PySem.W.nsIn K mainGlobals "law" = some (some (.ref f9)))
    (l9 : K.lookup f9 = some ⟨oc9, od9, .func (PySem.W.fnOf "law" "law" (defArgs s_law) (defBody s_law) (defScope s_law) .none kV9 dc9 pm9 an9 cd9 ct9), sl9⟩)
    (c9 : PySem.W.codeIn K cd9 "law" = true)
    (k9 : PySem.W.keepIn K (.ref f9) = true)
    (ac0 : PySem.W.nsIn K mainGlobals "TellError" = some (some (.ref C0)))
    (xc0 : PySem.W.excIn K C0 [.type "ValueError", .type "Exception", .type "BaseException", .type "object"] "ValueError.__new__" = true)
    (kc0 : PySem.W.keepIn K (.ref C0) = true)
    (bc0 : PySem.W.subIn K (.ref C0) (.type "BaseException") = some true)
    (tc0 : PySem.W.typeIn K (.ref C0) = some (.type "type"))
    (ic0 : PySem.W.isClsIn K C0 = true)
    (ac1 : PySem.W.nsIn K mainGlobals "NoPack" = some (some (.ref C1)))
    (xc1 : PySem.W.excIn K C1 [.type "ValueError", .type "Exception", .type "BaseException", .type "object"] "ValueError.__new__" = true)
    (kc1 : PySem.W.keepIn K (.ref C1) = true)
    (bc1 : PySem.W.subIn K (.ref C1) (.type "BaseException") = some true)
    (tc1 : PySem.W.typeIn K (.ref C1) = some (.type "type"))
    (ic1 : PySem.W.isClsIn K C1 = true)
    (ac2 : PySem.W.nsIn K mainGlobals "NoHand" = some (some (.ref C2)))
    (xc2 : PySem.W.excIn K C2 [.type "ValueError", .type "Exception", .type "BaseException", .type "object"] "ValueError.__new__" = true)
    (kc2 : PySem.W.keepIn K (.ref C2) = true)
    (bc2 : PySem.W.subIn K (.ref C2) (.type "BaseException") = some true)
    (tc2 : PySem.W.typeIn K (.ref C2) = some (.type "type"))
    (ic2 : PySem.W.isClsIn K C2 = true)
    (ac3 : PySem.W.nsIn K mainGlobals "NoRow" = some (some (.ref C3)))
    (xc3 : PySem.W.excIn K C3 [.type "ValueError", .type "Exception", .type "BaseException", .type "object"] "ValueError.__new__" = true)
    (kc3 : PySem.W.keepIn K (.ref C3) = true)
    (bc3 : PySem.W.subIn K (.ref C3) (.type "BaseException") = some true)
    (tc3 : PySem.W.typeIn K (.ref C3) = some (.type "type"))
    (ic3 : PySem.W.isClsIn K C3 = true)
    (ac4 : PySem.W.nsIn K mainGlobals "NoCard" = some (some (.ref C4)))
    (xc4 : PySem.W.excIn K C4 [.type "ValueError", .type "Exception", .type "BaseException", .type "object"] "ValueError.__new__" = true)
    (kc4 : PySem.W.keepIn K (.ref C4) = true)
    (bc4 : PySem.W.subIn K (.ref C4) (.type "BaseException") = some true)
    (tc4 : PySem.W.typeIn K (.ref C4) = some (.type "type"))
    (ic4 : PySem.W.isClsIn K C4 = true)
    (ac5 : PySem.W.nsIn K mainGlobals "NoNumber" = some (some (.ref C5)))
    (xc5 : PySem.W.excIn K C5 [.type "ValueError", .type "Exception", .type "BaseException", .type "object"] "ValueError.__new__" = true)
    (kc5 : PySem.W.keepIn K (.ref C5) = true)
    (bc5 : PySem.W.subIn K (.ref C5) (.type "BaseException") = some true)
    (tc5 : PySem.W.typeIn K (.ref C5) = some (.type "type"))
    (ic5 : PySem.W.isClsIn K C5 = true)
    (ac6 : PySem.W.nsIn K mainGlobals "NoPlan" = some (some (.ref C6)))
    (xc6 : PySem.W.excIn K C6 [.type "ValueError", .type "Exception", .type "BaseException", .type "object"] "ValueError.__new__" = true)
    (kc6 : PySem.W.keepIn K (.ref C6) = true)
    (bc6 : PySem.W.subIn K (.ref C6) (.type "BaseException") = some true)
    (tc6 : PySem.W.typeIn K (.ref C6) = some (.type "type"))
    (ic6 : PySem.W.isClsIn K C6 = true)
    (ac7 : PySem.W.nsIn K mainGlobals "NoNote" = some (some (.ref C7)))
    (xc7 : PySem.W.excIn K C7 [.type "ValueError", .type "Exception", .type "BaseException", .type "object"] "ValueError.__new__" = true)
    (kc7 : PySem.W.keepIn K (.ref C7) = true)
    (bc7 : PySem.W.subIn K (.ref C7) (.type "BaseException") = some true)
    (tc7 : PySem.W.typeIn K (.ref C7) = some (.type "type"))
    (ic7 : PySem.W.isClsIn K C7 = true)
    (z_ValueError : PySem.W.nsIn K mainGlobals "ValueError" = some none)
    (z_bool : PySem.W.nsIn K mainGlobals "bool" = some none)
    (z_int : PySem.W.nsIn K mainGlobals "int" = some none)
    (z_isinstance : PySem.W.nsIn K mainGlobals "isinstance" = some none)
    (z_len : PySem.W.nsIn K mainGlobals "len" = some none)
    (z_list : PySem.W.nsIn K mainGlobals "list" = some none)
    (z_range : PySem.W.nsIn K mainGlobals "range" = some none)
    (z_str : PySem.W.nsIn K mainGlobals "str" = some none)
    (g_FIGURES : PySem.W.nsIn K mainGlobals "FIGURES" = some (some (.str "0123456789" tk_FIGURES)))
    (hn : PySem.W.specialIn K (.builtin "object.__class__") "__get__" = some (some (.builtin "getset_descriptor.__get__")))
    (ht : PySem.W.takesIn K (.builtin "object.__class__") = some true)
    (hg0 : PySem.W.findIn K (.ref C1) "__getattribute__" = some (some (.builtin "BaseException.__getattribute__")))
    (hk0 : PySem.W.findIn K (.ref C1) "__getattr__" = some none)
    (hd0 : PySem.W.hasDictIn K C1 = true)
    (ha0 : PySem.W.findIn K (.ref C1) "__class__" = some (some (.builtin "object.__class__")))
    (hm0 : PySem.W.mroIn K C1 (.type "object") = some true)
    (q00 : PySem.W.subIn K (.ref C1) (.ref C1) = some true)
    (q01 : PySem.W.subIn K (.ref C1) (.ref C2) = some false)
    (q02 : PySem.W.subIn K (.ref C1) (.ref C3) = some false)
    (q03 : PySem.W.subIn K (.ref C1) (.ref C4) = some false)
    (q04 : PySem.W.subIn K (.ref C1) (.ref C5) = some false)
    (q05 : PySem.W.subIn K (.ref C1) (.ref C6) = some false)
    (q06 : PySem.W.subIn K (.ref C1) (.ref C7) = some false)
    (qv0 : PySem.W.subIn K (.ref C1) (.type "ValueError") = some true)
    (qt0 : PySem.W.subIn K (.ref C1) (.ref C0) = some true)
    (hg1 : PySem.W.findIn K (.ref C2) "__getattribute__" = some (some (.builtin "BaseException.__getattribute__")))
    (hk1 : PySem.W.findIn K (.ref C2) "__getattr__" = some none)
    (hd1 : PySem.W.hasDictIn K C2 = true)
    (ha1 : PySem.W.findIn K (.ref C2) "__class__" = some (some (.builtin "object.__class__")))
    (hm1 : PySem.W.mroIn K C2 (.type "object") = some true)
    (q10 : PySem.W.subIn K (.ref C2) (.ref C1) = some false)
    (q11 : PySem.W.subIn K (.ref C2) (.ref C2) = some true)
    (q12 : PySem.W.subIn K (.ref C2) (.ref C3) = some false)
    (q13 : PySem.W.subIn K (.ref C2) (.ref C4) = some false)
    (q14 : PySem.W.subIn K (.ref C2) (.ref C5) = some false)
    (q15 : PySem.W.subIn K (.ref C2) (.ref C6) = some false)
    (q16 : PySem.W.subIn K (.ref C2) (.ref C7) = some false)
    (qv1 : PySem.W.subIn K (.ref C2) (.type "ValueError") = some true)
    (qt1 : PySem.W.subIn K (.ref C2) (.ref C0) = some true)
    (hg2 : PySem.W.findIn K (.ref C3) "__getattribute__" = some (some (.builtin "BaseException.__getattribute__")))
    (hk2 : PySem.W.findIn K (.ref C3) "__getattr__" = some none)
    (hd2 : PySem.W.hasDictIn K C3 = true)
    (ha2 : PySem.W.findIn K (.ref C3) "__class__" = some (some (.builtin "object.__class__")))
    (hm2 : PySem.W.mroIn K C3 (.type "object") = some true)
    (q20 : PySem.W.subIn K (.ref C3) (.ref C1) = some false)
    (q21 : PySem.W.subIn K (.ref C3) (.ref C2) = some false)
    (q22 : PySem.W.subIn K (.ref C3) (.ref C3) = some true)
    (q23 : PySem.W.subIn K (.ref C3) (.ref C4) = some false)
    (q24 : PySem.W.subIn K (.ref C3) (.ref C5) = some false)
    (q25 : PySem.W.subIn K (.ref C3) (.ref C6) = some false)
    (q26 : PySem.W.subIn K (.ref C3) (.ref C7) = some false)
    (qv2 : PySem.W.subIn K (.ref C3) (.type "ValueError") = some true)
    (qt2 : PySem.W.subIn K (.ref C3) (.ref C0) = some true)
    (hg3 : PySem.W.findIn K (.ref C4) "__getattribute__" = some (some (.builtin "BaseException.__getattribute__")))
    (hk3 : PySem.W.findIn K (.ref C4) "__getattr__" = some none)
    (hd3 : PySem.W.hasDictIn K C4 = true)
    (ha3 : PySem.W.findIn K (.ref C4) "__class__" = some (some (.builtin "object.__class__")))
    (hm3 : PySem.W.mroIn K C4 (.type "object") = some true)
    (q30 : PySem.W.subIn K (.ref C4) (.ref C1) = some false)
    (q31 : PySem.W.subIn K (.ref C4) (.ref C2) = some false)
    (q32 : PySem.W.subIn K (.ref C4) (.ref C3) = some false)
    (q33 : PySem.W.subIn K (.ref C4) (.ref C4) = some true)
    (q34 : PySem.W.subIn K (.ref C4) (.ref C5) = some false)
    (q35 : PySem.W.subIn K (.ref C4) (.ref C6) = some false)
    (q36 : PySem.W.subIn K (.ref C4) (.ref C7) = some false)
    (qv3 : PySem.W.subIn K (.ref C4) (.type "ValueError") = some true)
    (qt3 : PySem.W.subIn K (.ref C4) (.ref C0) = some true)
    (hg4 : PySem.W.findIn K (.ref C5) "__getattribute__" = some (some (.builtin "BaseException.__getattribute__")))
    (hk4 : PySem.W.findIn K (.ref C5) "__getattr__" = some none)
    (hd4 : PySem.W.hasDictIn K C5 = true)
    (ha4 : PySem.W.findIn K (.ref C5) "__class__" = some (some (.builtin "object.__class__")))
    (hm4 : PySem.W.mroIn K C5 (.type "object") = some true)
    (q40 : PySem.W.subIn K (.ref C5) (.ref C1) = some false)
    (q41 : PySem.W.subIn K (.ref C5) (.ref C2) = some false)
    (q42 : PySem.W.subIn K (.ref C5) (.ref C3) = some false)
    (q43 : PySem.W.subIn K (.ref C5) (.ref C4) = some false)
    (q44 : PySem.W.subIn K (.ref C5) (.ref C5) = some true)
    (q45 : PySem.W.subIn K (.ref C5) (.ref C6) = some false)
    (q46 : PySem.W.subIn K (.ref C5) (.ref C7) = some false)
    (qv4 : PySem.W.subIn K (.ref C5) (.type "ValueError") = some true)
    (qt4 : PySem.W.subIn K (.ref C5) (.ref C0) = some true)
    (hg5 : PySem.W.findIn K (.ref C6) "__getattribute__" = some (some (.builtin "BaseException.__getattribute__")))
    (hk5 : PySem.W.findIn K (.ref C6) "__getattr__" = some none)
    (hd5 : PySem.W.hasDictIn K C6 = true)
    (ha5 : PySem.W.findIn K (.ref C6) "__class__" = some (some (.builtin "object.__class__")))
    (hm5 : PySem.W.mroIn K C6 (.type "object") = some true)
    (q50 : PySem.W.subIn K (.ref C6) (.ref C1) = some false)
    (q51 : PySem.W.subIn K (.ref C6) (.ref C2) = some false)
    (q52 : PySem.W.subIn K (.ref C6) (.ref C3) = some false)
    (q53 : PySem.W.subIn K (.ref C6) (.ref C4) = some false)
    (q54 : PySem.W.subIn K (.ref C6) (.ref C5) = some false)
    (q55 : PySem.W.subIn K (.ref C6) (.ref C6) = some true)
    (q56 : PySem.W.subIn K (.ref C6) (.ref C7) = some false)
    (qv5 : PySem.W.subIn K (.ref C6) (.type "ValueError") = some true)
    (qt5 : PySem.W.subIn K (.ref C6) (.ref C0) = some true)
    (hg6 : PySem.W.findIn K (.ref C7) "__getattribute__" = some (some (.builtin "BaseException.__getattribute__")))
    (hk6 : PySem.W.findIn K (.ref C7) "__getattr__" = some none)
    (hd6 : PySem.W.hasDictIn K C7 = true)
    (ha6 : PySem.W.findIn K (.ref C7) "__class__" = some (some (.builtin "object.__class__")))
    (hm6 : PySem.W.mroIn K C7 (.type "object") = some true)
    (q60 : PySem.W.subIn K (.ref C7) (.ref C1) = some false)
    (q61 : PySem.W.subIn K (.ref C7) (.ref C2) = some false)
    (q62 : PySem.W.subIn K (.ref C7) (.ref C3) = some false)
    (q63 : PySem.W.subIn K (.ref C7) (.ref C4) = some false)
    (q64 : PySem.W.subIn K (.ref C7) (.ref C5) = some false)
    (q65 : PySem.W.subIn K (.ref C7) (.ref C6) = some false)
    (q66 : PySem.W.subIn K (.ref C7) (.ref C7) = some true)
    (qv6 : PySem.W.subIn K (.ref C7) (.type "ValueError") = some true)
    (qt6 : PySem.W.subIn K (.ref C7) (.ref C0) = some true)
    (hdT : PySem.W.hasDictIn K C0 = true) :
    ∃ fd : FuncData, (∀ (s : Shared) (v : Value), BindsTo s fd ⟨[v], []⟩ [("script", v)]) ∧ ∀ base : Heap, K.In base → base.Ns mainGlobals mg → FnOk P w K mg base (L2N.CX P w) 6 fa fd ["script"] (spLaw K) := by
  have e := hfa.symm.trans (PySem.W.mg_of X G a9)
  cases e
  have F1 := fun_mk (st := s_number_of) l1 c1 k1
  have b1 := F1.binds (ps := ["word"]) fun _ _ _ _ _ _ us hl => match us, hl with | [_], _ => rfl
  have F2 := fun_mk (st := s_read) l2 c2 k2
  have b2 := F2.binds (ps := ["text"]) fun _ _ _ _ _ _ us hl => match us, hl with | [_], _ => rfl
  have F3 := fun_mk (st := s__law_cell) l3 c3 k3
  have b3 := F3.binds (ps := ["script", "k"]) fun _ _ _ _ _ _ us hl => match us, hl with | [_, _], _ => rfl
  have F4 := fun_mk (st := s__law_ints) l4 c4 k4
  have b4 := F4.binds (ps := ["found", "due"]) fun _ _ _ _ _ _ us hl => match us, hl with | [_, _], _ => rfl
  have F5 := fun_mk (st := s__law_which) l5 c5 k5
  have b5 := F5.binds (ps := ["e"]) fun _ _ _ _ _ _ us hl => match us, hl with | [_], _ => rfl
  have F6 := fun_mk (st := s__law_due) l6 c6 k6
  have b6 := F6.binds (ps := ["text"]) fun _ _ _ _ _ _ us hl => match us, hl with | [_], _ => rfl
  have F7 := fun_mk (st := s__law_sign) l7 c7 k7
  have b7 := F7.binds (ps := ["cell", "way"]) fun _ _ _ _ _ _ us hl => match us, hl with | [_, _], _ => rfl
  have F8 := fun_mk (st := s__law_odd) l8 c8 k8
  have b8 := F8.binds (ps := ["cell"]) fun _ _ _ _ _ _ us hl => match us, hl with | [_], _ => rfl
  have F9 := fun_mk (st := s_law) l9 c9 k9
  have T : Txt K mg := ⟨⟨_, _, F1, PySem.W.mg_of X G a1, b1⟩, ⟨_, _, F2, PySem.W.mg_of X G a2, b2⟩, ⟨_, _, F3, PySem.W.mg_of X G a3, b3⟩, ⟨_, _, F4, PySem.W.mg_of X G a4, b4⟩, ⟨_, _, F5, PySem.W.mg_of X G a5, b5⟩, ⟨_, _, F6, PySem.W.mg_of X G a6, b6⟩, ⟨_, _, F7, PySem.W.mg_of X G a7, b7⟩, ⟨_, _, F8, PySem.W.mg_of X G a8, b8⟩, ⟨_, PySem.W.mg_of X G ac0, xc0, kc0, bc0, tc0, ic0⟩, ⟨_, PySem.W.mg_of X G ac1, xc1, kc1, bc1, tc1, ic1⟩, ⟨_, PySem.W.mg_of X G ac2, xc2, kc2, bc2, tc2, ic2⟩, ⟨_, PySem.W.mg_of X G ac3, xc3, kc3, bc3, tc3, ic3⟩, ⟨_, PySem.W.mg_of X G ac4, xc4, kc4, bc4, tc4, ic4⟩, ⟨_, PySem.W.mg_of X G ac5, xc5, kc5, bc5, tc5, ic5⟩, ⟨_, PySem.W.mg_of X G ac6, xc6, kc6, bc6, tc6, ic6⟩, ⟨_, PySem.W.mg_of X G ac7, xc7, kc7, bc7, tc7, ic7⟩, PySem.W.mg_none_of X G z_ValueError, PySem.W.mg_none_of X G z_bool, PySem.W.mg_none_of X G z_int, PySem.W.mg_none_of X G z_isinstance, PySem.W.mg_none_of X G z_len, PySem.W.mg_none_of X G z_list, PySem.W.mg_none_of X G z_range, PySem.W.mg_none_of X G z_str, ⟨_, PySem.W.mg_of X G g_FIGURES⟩, ⟨_, _, _, _, _, _, _, _, PySem.W.mg_of X G ac0, PySem.W.mg_of X G ac1, PySem.W.mg_of X G ac2, PySem.W.mg_of X G ac3, PySem.W.mg_of X G ac4, PySem.W.mg_of X G ac5, PySem.W.mg_of X G ac6, PySem.W.mg_of X G ac7, wh_mk hn ht hg0 hk0 bc1 hd0 ha0 hm0 (kit_mk hd0 tc1 q00 q00) (kit_mk hd1 tc2 q11 q01) (kit_mk hd2 tc3 q22 q02) (kit_mk hd3 tc4 q33 q03) (kit_mk hd4 tc5 q44 q04) (kit_mk hd5 tc6 q55 q05) (kit_mk hd6 tc7 q66 q06) (kit_val qv0), wh_mk hn ht hg1 hk1 bc2 hd1 ha1 hm1 (kit_mk hd0 tc1 q00 q10) (kit_mk hd1 tc2 q11 q11) (kit_mk hd2 tc3 q22 q12) (kit_mk hd3 tc4 q33 q13) (kit_mk hd4 tc5 q44 q14) (kit_mk hd5 tc6 q55 q15) (kit_mk hd6 tc7 q66 q16) (kit_val qv1), wh_mk hn ht hg2 hk2 bc3 hd2 ha2 hm2 (kit_mk hd0 tc1 q00 q20) (kit_mk hd1 tc2 q11 q21) (kit_mk hd2 tc3 q22 q22) (kit_mk hd3 tc4 q33 q23) (kit_mk hd4 tc5 q44 q24) (kit_mk hd5 tc6 q55 q25) (kit_mk hd6 tc7 q66 q26) (kit_val qv2), wh_mk hn ht hg3 hk3 bc4 hd3 ha3 hm3 (kit_mk hd0 tc1 q00 q30) (kit_mk hd1 tc2 q11 q31) (kit_mk hd2 tc3 q22 q32) (kit_mk hd3 tc4 q33 q33) (kit_mk hd4 tc5 q44 q34) (kit_mk hd5 tc6 q55 q35) (kit_mk hd6 tc7 q66 q36) (kit_val qv3), wh_mk hn ht hg4 hk4 bc5 hd4 ha4 hm4 (kit_mk hd0 tc1 q00 q40) (kit_mk hd1 tc2 q11 q41) (kit_mk hd2 tc3 q22 q42) (kit_mk hd3 tc4 q33 q43) (kit_mk hd4 tc5 q44 q44) (kit_mk hd5 tc6 q55 q45) (kit_mk hd6 tc7 q66 q46) (kit_val qv4), wh_mk hn ht hg5 hk5 bc6 hd5 ha5 hm5 (kit_mk hd0 tc1 q00 q50) (kit_mk hd1 tc2 q11 q51) (kit_mk hd2 tc3 q22 q52) (kit_mk hd3 tc4 q33 q53) (kit_mk hd4 tc5 q44 q54) (kit_mk hd5 tc6 q55 q55) (kit_mk hd6 tc7 q66 q56) (kit_val qv5), wh_mk hn ht hg6 hk6 bc7 hd6 ha6 hm6 (kit_mk hd0 tc1 q00 q60) (kit_mk hd1 tc2 q11 q61) (kit_mk hd2 tc3 q22 q62) (kit_mk hd3 tc4 q33 q63) (kit_mk hd4 tc5 q44 q64) (kit_mk hd5 tc6 q55 q65) (kit_mk hd6 tc7 q66 q66) (kit_val qv6), PySem.W.exm_ref bc0 hdT tc0 qt0, PySem.W.exm_ref bc0 hdT tc0 qt1, PySem.W.exm_ref bc0 hdT tc0 qt2, PySem.W.exm_ref bc0 hdT tc0 qt3, PySem.W.exm_ref bc0 hdT tc0 qt4, PySem.W.exm_ref bc0 hdT tc0 qt5, PySem.W.exm_ref bc0 hdT tc0 qt6⟩⟩
  exact ⟨PySem.W.fnOf "law" "law" (defArgs s_law) (defBody s_law) (defScope s_law) .none kV9 dc9 pm9 an9 cd9 ct9, fun s v => .of_eq rfl, fun base _ _ => ok_law F9 T⟩
theorem walk {l : PySem.W.OpenLaw} {q : Program} {loose : List Str} {XP : (Str → Option Value) → Heap → Prop} {YP : World → Heap → Prop} {d : DefRec} {K : Params → PySem.W.Frag} (hn : l.most = some 63) (hdf : d.params.defaults = [])
    (hY : ∀ (w : World) (h : Heap), YP w h → (K w.params).In h)
    (F : ∀ (w : World) (mg : Str → Option Value) (fa : Addr) (h : Heap), (K w.params).In h → h.Ns mainGlobals mg → mg d.name = some (.ref fa) →
      ∃ fd : FuncData, (∀ (s : Shared) (u : Value), BindsTo s fd ⟨[u], []⟩ [("script", u)]) ∧ ∀ base : Heap, (K w.params).In base → base.Ns mainGlobals mg → FnOk l.prog w (K w.params) mg base (L2N.CX l.prog w) 6 fa fd ["script"] (spLaw (K w.params))) :
    PySem.W.WalkO q loose XP YP l.row.toRowW d [] (fun f vs => PySem.call f vs) :=
  L2.walk_of (n := 63) (k := 6) (x := "script") (CX := fun w => L2N.CX l.prog w) (sp := fun w => spLaw (K w.params)) hn (by decide) hdf ⟨rfl, by decide, by decide⟩ hY F (fun _ _ _ _ hl _ hS => sp_law hl hS) fun _ _ _ _ _ z => by
    obtain ⟨_, _, _, _, _, _, _, _, _, _, _, _, z⟩ := z
    exact z.elim
end Fk
open PySem PySem.W PyProof.Rows
set_option maxRecDepth 100000 in
set_option maxHeartbeats 0 in
theorem PySem.Challenge.cw_fourtell_k14_read_or_refused_holds : PySem.Challenge.rw_fourtell_k14_read_or_refused.Holds := by
  w_on; o_law; k_head; (case hw => w_witness2)
  k_fill
  refine Fk.walk (l := PySem.Challenge.rw_fourtell_k14_read_or_refused) rfl rfl (fun w h Y => PySem.W.kIn_of Y) ?F
  case F =>
    intro w mg fa h KX G hmg
    refine' Fk.all_mk KX G hmg ?a1 ?l1 ?c1 ?k1 ?a2 ?l2 ?c2 ?k2 ?a3 ?l3 ?c3 ?k3 ?a4 ?l4 ?c4 ?k4 ?a5 ?l5 ?c5 ?k5 ?a6 ?l6 ?c6 ?k6 ?a7 ?l7 ?c7 ?k7 ?a8 ?l8 ?c8 ?k8 ?a9 ?l9 ?c9 ?k9 ?ac0 ?xc0 ?kc0 ?bc0 ?tc0 ?ic0 ?ac1 ?xc1 ?kc1 ?bc1 ?tc1 ?ic1 ?ac2 ?xc2 ?kc2 ?bc2 ?tc2 ?ic2 ?ac3 ?xc3 ?kc3 ?bc3 ?tc3 ?ic3 ?ac4 ?xc4 ?kc4 ?bc4 ?tc4 ?ic4 ?ac5 ?xc5 ?kc5 ?bc5 ?tc5 ?ic5 ?ac6 ?xc6 ?kc6 ?bc6 ?tc6 ?ic6 ?ac7 ?xc7 ?kc7 ?bc7 ?tc7 ?ic7 ?z_ValueError ?z_bool ?z_int ?z_isinstance ?z_len ?z_list ?z_range ?z_str ?g_FIGURES ?hn ?ht ?hg0 ?hk0 ?hd0 ?ha0 ?hm0 ?q00 ?q01 ?q02 ?q03 ?q04 ?q05 ?q06 ?qv0 ?qt0 ?hg1 ?hk1 ?hd1 ?ha1 ?hm1 ?q10 ?q11 ?q12 ?q13 ?q14 ?q15 ?q16 ?qv1 ?qt1 ?hg2 ?hk2 ?hd2 ?ha2 ?hm2 ?q20 ?q21 ?q22 ?q23 ?q24 ?q25 ?q26 ?qv2 ?qt2 ?hg3 ?hk3 ?hd3 ?ha3 ?hm3 ?q30 ?q31 ?q32 ?q33 ?q34 ?q35 ?q36 ?qv3 ?qt3 ?hg4 ?hk4 ?hd4 ?ha4 ?hm4 ?q40 ?q41 ?q42 ?q43 ?q44 ?q45 ?q46 ?qv4 ?qt4 ?hg5 ?hk5 ?hd5 ?ha5 ?hm5 ?q50 ?q51 ?q52 ?q53 ?q54 ?q55 ?q56 ?qv5 ?qt5 ?hg6 ?hk6 ?hd6 ?ha6 ?hm6 ?q60 ?q61 ?q62 ?q63 ?q64 ?q65 ?q66 ?qv6 ?qt6 ?hdT
    (case a1 => k_is)
    (case l1 => k_is)
    (case c1 => k_is)
    (case k1 => k_is)
    (case a2 => k_is)
    (case l2 => k_is)
    (case c2 => k_is)
    (case k2 => k_is)
    (case a3 => k_is)
    (case l3 => k_is)
    (case c3 => k_is)
    (case k3 => k_is)
    (case a4 => k_is)
    (case l4 => k_is)
    (case c4 => k_is)
    (case k4 => k_is)
    (case a5 => k_is)
    (case l5 => k_is)
    (case c5 => k_is)
    (case k5 => k_is)
    (case a6 => k_is)
    (case l6 => k_is)
    (case c6 => k_is)
    (case k6 => k_is)
    (case a7 => k_is)
    (case l7 => k_is)
    (case c7 => k_is)
    (case k7 => k_is)
    (case a8 => k_is)
    (case l8 => k_is)
    (case c8 => k_is)
    (case k8 => k_is)
    (case a9 => k_is)
    (case l9 => k_is)
    (case c9 => k_is)
    (case k9 => k_is)
    (case ac0 => k_is)
    (case xc0 => k_exc)
    (case kc0 => k_is)
    (case bc0 => k_is)
    (case tc0 => k_is)
    (case ic0 => k_is)
    (case ac1 => k_is)
    (case xc1 => k_exc)
    (case kc1 => k_is)
    (case bc1 => k_is)
    (case tc1 => k_is)
    (case ic1 => k_is)
    (case ac2 => k_is)
    (case xc2 => k_exc)
    (case kc2 => k_is)
    (case bc2 => k_is)
    (case tc2 => k_is)
    (case ic2 => k_is)
    (case ac3 => k_is)
    (case xc3 => k_exc)
    (case kc3 => k_is)
    (case bc3 => k_is)
    (case tc3 => k_is)
    (case ic3 => k_is)
    (case ac4 => k_is)
    (case xc4 => k_exc)
    (case kc4 => k_is)
    (case bc4 => k_is)
    (case tc4 => k_is)
    (case ic4 => k_is)
    (case ac5 => k_is)
    (case xc5 => k_exc)
    (case kc5 => k_is)
    (case bc5 => k_is)
    (case tc5 => k_is)
    (case ic5 => k_is)
    (case ac6 => k_is)
    (case xc6 => k_exc)
    (case kc6 => k_is)
    (case bc6 => k_is)
    (case tc6 => k_is)
    (case ic6 => k_is)
    (case ac7 => k_is)
    (case xc7 => k_exc)
    (case kc7 => k_is)
    (case bc7 => k_is)
    (case tc7 => k_is)
    (case ic7 => k_is)
    (case z_ValueError => k_is)
    (case z_bool => k_is)
    (case z_int => k_is)
    (case z_isinstance => k_is)
    (case z_len => k_is)
    (case z_list => k_is)
    (case z_range => k_is)
    (case z_str => k_is)
    (case g_FIGURES => k_is)
    (case hn => k_is)
    (case ht => k_is)
    (case hg0 => k_is)
    (case hk0 => k_is)
    (case hd0 => k_is)
    (case ha0 => k_is)
    (case hm0 => k_is)
    (case q00 => k_is)
    (case q01 => k_is)
    (case q02 => k_is)
    (case q03 => k_is)
    (case q04 => k_is)
    (case q05 => k_is)
    (case q06 => k_is)
    (case qv0 => k_is)
    (case qt0 => k_is)
    (case hg1 => k_is)
    (case hk1 => k_is)
    (case hd1 => k_is)
    (case ha1 => k_is)
    (case hm1 => k_is)
    (case q10 => k_is)
    (case q11 => k_is)
    (case q12 => k_is)
    (case q13 => k_is)
    (case q14 => k_is)
    (case q15 => k_is)
    (case q16 => k_is)
    (case qv1 => k_is)
    (case qt1 => k_is)
    (case hg2 => k_is)
    (case hk2 => k_is)
    (case hd2 => k_is)
    (case ha2 => k_is)
    (case hm2 => k_is)
    (case q20 => k_is)
    (case q21 => k_is)
    (case q22 => k_is)
    (case q23 => k_is)
    (case q24 => k_is)
    (case q25 => k_is)
    (case q26 => k_is)
    (case qv2 => k_is)
    (case qt2 => k_is)
    (case hg3 => k_is)
    (case hk3 => k_is)
    (case hd3 => k_is)
    (case ha3 => k_is)
    (case hm3 => k_is)
    (case q30 => k_is)
    (case q31 => k_is)
    (case q32 => k_is)
    (case q33 => k_is)
    (case q34 => k_is)
    (case q35 => k_is)
    (case q36 => k_is)
    (case qv3 => k_is)
    (case qt3 => k_is)
    (case hg4 => k_is)
    (case hk4 => k_is)
    (case hd4 => k_is)
    (case ha4 => k_is)
    (case hm4 => k_is)
    (case q40 => k_is)
    (case q41 => k_is)
    (case q42 => k_is)
    (case q43 => k_is)
    (case q44 => k_is)
    (case q45 => k_is)
    (case q46 => k_is)
    (case qv4 => k_is)
    (case qt4 => k_is)
    (case hg5 => k_is)
    (case hk5 => k_is)
    (case hd5 => k_is)
    (case ha5 => k_is)
    (case hm5 => k_is)
    (case q50 => k_is)
    (case q51 => k_is)
    (case q52 => k_is)
    (case q53 => k_is)
    (case q54 => k_is)
    (case q55 => k_is)
    (case q56 => k_is)
    (case qv5 => k_is)
    (case qt5 => k_is)
    (case hg6 => k_is)
    (case hk6 => k_is)
    (case hd6 => k_is)
    (case ha6 => k_is)
    (case hm6 => k_is)
    (case q60 => k_is)
    (case q61 => k_is)
    (case q62 => k_is)
    (case q63 => k_is)
    (case q64 => k_is)
    (case q65 => k_is)
    (case q66 => k_is)
    (case qv6 => k_is)
    (case qt6 => k_is)
    (case hdT => k_is)
