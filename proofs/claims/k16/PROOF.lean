import PyProof.Rows.All
import Wide.All
import OpenK.AllK
import Wide.FinOn
import HandS.ForMost
import HandS.Wide
import HandS.IsInst
import HandS.Deep
import HandS.Style
import HandS.More
import PySem.Challenge.RW_earthends_k16_whole_no_other_leak
set_option Elab.async false
set_option linter.all false
set_option maxRecDepth 100000
set_option maxHeartbeats 4000000
/-! A small logic over the hand layer: what a piece of code makes of data, the heap out of sight. -/
namespace Ea
open PySem PySem.Spec PyProof.Rows L2

/-! ### readings: the union of all terms -/
def pe (X : Cx) (e : Expr) : TE := fun σ H Q => ∃ t, PE X e t ∧ t σ H Q
def pt (X : Cx) (e : Expr) : TT := fun σ H Q => ∃ t, PT X e t ∧ t σ H Q
def pw (X : Cx) (e : Expr) : TT := fun σ H Q => ∃ t, PW X e t ∧ t σ H Q
def pa (X : Cx) (es : List Expr) : TA := fun σ H Q => ∃ t, PA X es t ∧ t σ H Q
def pss (X : Cx) (ss : List Stmt) : TS := fun D σ H => ∃ t, PSs X ss t ∧ t D σ H
def pg (X : Cx) (tg : Expr) : TG := fun v σ H Q => ∃ t, PG X tg t ∧ t v σ H Q
section
variable {X : Cx} {e tg : Expr} {es : List Expr} {ss : List Stmt}
theorem pe_ok : PE X e (pe X e) := ⟨fun pins s σ H Q I ⟨_, h, q⟩ => h.run pins s σ H Q I q⟩
theorem pt_ok : PT X e (pt X e) := ⟨fun pins s σ H Q I ⟨_, h, q⟩ => h.run pins s σ H Q I q⟩
theorem pw_ok : PW X e (pw X e) := ⟨fun wh pins s σ H Q I ⟨_, h, q⟩ => h.run wh pins s σ H Q I q⟩
theorem pa_ok : PA X es (pa X es) := ⟨fun pos pins s σ H Q I ⟨_, h, q⟩ => h.run pos pins s σ H Q I q⟩
theorem pss_ok : PSs X ss (pss X ss) := ⟨fun pins s σ H D I ⟨_, h, q⟩ => h.run pins s σ H D I q⟩
theorem pg_ok : PG X tg (pg X tg) := ⟨fun pins s σ H v u Q I r ⟨_, h, q⟩ => h.run pins s σ H v u Q I r q⟩
end

/-! ### data stay as the known heap grows -/
theorem same_t {K : PySem.W.Frag} {G G' : Hp} {a : Addr} {xs : List V} (e : Same G G') (h : SqT K G a xs) : SqT K G' a xs := by
  rcases h with (h | ⟨o, h⟩) | h
  · exact .inl (.inl (e _ _ h))
  · exact .inl (.inr ⟨o, e _ _ h⟩)
  · exact .inr h
mutual
theorem dp_same {K : PySem.W.Frag} {G G' : Hp} (s : Same G G') : ∀ (d : PyData) (v : V), Dp K G v d → Dp K G' v d
  | .none, _, h => by cases h; exact .non
  | .bool b, _, h => by cases h; exact .bl b
  | .int i, _, h => by cases h; exact .int i
  | .str x, _, h => by cases h; exact .str x
  | .list ds, _, h => by
    cases h with
    | lst hs ha => exact .lst (s.seq hs) (dpa_same s ds _ ha)
  | .tuple ds, _, h => by
    cases h with
    | tup hs ha => exact .tup (same_t s hs) (dpa_same s ds _ ha)
  | .dict _, _, h => by cases h
theorem dpa_same {K : PySem.W.Frag} {G G' : Hp} (s : Same G G') : ∀ (ds : List PyData) (vs : List V), DpAll K G vs ds → DpAll K G' vs ds
  | [], _, h => by cases h; exact .nil
  | d :: ds, _, h => by
    cases h with
    | cons h1 h2 => exact .cons (dp_same s d _ h1) (dpa_same s ds _ h2)
end
theorem dpa_len {K : PySem.W.Frag} {G : Hp} : ∀ {vs : List V} {ds : List PyData}, DpAll K G vs ds → vs.length = ds.length
  | [], _, h => by cases h; rfl
  | _ :: _, _, h => by
    cases h with
    | cons _ h2 => rw [List.length_cons, List.length_cons, dpa_len h2]
theorem dpa_get {K : PySem.W.Frag} {G : Hp} : ∀ {vs : List V} {ds : List PyData} {i : Nat} {v : V}, DpAll K G vs ds → vs[i]? = some v → ∃ d, ds[i]? = some d ∧ Dp K G v d
  | [], _, i, v, h, e => by simp at e
  | w :: vs, _, 0, v, h, e => by
    cases h with
    | cons h1 h2 =>
      have e' : w = v := by simpa using e
      subst e'
      exact ⟨_, rfl, h1⟩
  | w :: vs, _, i + 1, v, h, e => by
    cases h with
    | cons h1 h2 =>
      obtain ⟨d, e1, e2⟩ := dpa_get (i := i) h2 (by simpa using e)
      exact ⟨d, by simpa using e1, e2⟩
theorem dpa_at {K : PySem.W.Frag} {G : Hp} : ∀ {vs : List V} {ds : List PyData} {i : Nat} {d : PyData}, DpAll K G vs ds → ds[i]? = some d → ∃ v, vs[i]? = some v ∧ Dp K G v d
  | [], _, i, d, h, e => by cases h; simp at e
  | w :: vs, _, 0, d, h, e => by
    cases h with
    | @cons _ _ d0 ds0 h1 h2 =>
      have e' : d0 = d := by simpa using e
      subst e'
      exact ⟨_, rfl, h1⟩
  | w :: vs, _, i + 1, d, h, e => by
    cases h with
    | cons h1 h2 =>
      obtain ⟨v, e1, e2⟩ := dpa_at (i := i) h2 (by simpa using e)
      exact ⟨v, by simpa using e1, e2⟩
theorem dpa_append {K : PySem.W.Frag} {G : Hp} : ∀ {vs ws : List V} {ds es : List PyData}, DpAll K G vs ds → DpAll K G ws es → DpAll K G (vs ++ ws) (ds ++ es)
  | [], _, _, _, h, h' => by cases h; exact h'
  | _ :: _, _, _, _, h, h' => by
    cases h with
    | cons h1 h2 => exact .cons h1 (dpa_append h2 h')
theorem dpa_snoc {K : PySem.W.Frag} {G : Hp} {vs : List V} {ds : List PyData} {v : V} {d : PyData} (h : DpAll K G vs ds) (h' : Dp K G v d) : DpAll K G (vs ++ [v]) (ds ++ [d]) := dpa_append h (.cons h' .nil)
theorem dpa_drop {K : PySem.W.Frag} {G : Hp} : ∀ (n : Nat) {vs : List V} {ds : List PyData}, DpAll K G vs ds → DpAll K G (vs.drop n) (ds.drop n)
  | 0, _, _, h => h
  | _ + 1, [], _, h => by cases h; exact .nil
  | n + 1, _ :: _, _, h => by
    cases h with
    | cons h1 h2 => exact dpa_drop n h2
theorem dpa_take {K : PySem.W.Frag} {G : Hp} : ∀ (n : Nat) {vs : List V} {ds : List PyData}, DpAll K G vs ds → DpAll K G (vs.take n) (ds.take n)
  | 0, _, _, _ => by rw [List.take_zero, List.take_zero]; exact .nil
  | _ + 1, [], _, h => by cases h; exact .nil
  | n + 1, _ :: _, _, h => by
    cases h with
    | cons h1 h2 => exact .cons h1 (dpa_take n h2)
theorem dpa_rev {K : PySem.W.Frag} {G : Hp} : ∀ {vs : List V} {ds : List PyData}, DpAll K G vs ds → DpAll K G vs.reverse ds.reverse
  | [], _, h => by cases h; exact .nil
  | _ :: _, _, h => by
    cases h with
    | cons h1 h2 =>
      rw [List.reverse_cons, List.reverse_cons]
      exact dpa_snoc (dpa_rev h2) h1
theorem dpa_ints {K : PySem.W.Frag} {G : Hp} : ∀ {vs : List V} {ns : List Int}, DpAll K G vs (ns.map PyData.int) → vs = ns.map V.int
  | [], [], _ => rfl
  | [], _ :: _, h => by cases h
  | _ :: _, [], h => by cases h
  | _ :: _, _ :: _, h => by
    cases h with
    | cons h1 h2 =>
      cases h1
      rw [List.map_cons, dpa_ints h2]
theorem dpa_of_ints {K : PySem.W.Frag} {G : Hp} : ∀ ns : List Int, DpAll K G (ns.map V.int) (ns.map PyData.int)
  | [] => .nil
  | n :: ns => .cons (.int n) (dpa_of_ints ns)
theorem dpa_bools {K : PySem.W.Frag} {G : Hp} : ∀ {vs : List V} {ns : List Bool}, DpAll K G vs (ns.map PyData.bool) → vs = ns.map V.bl
  | [], [], _ => rfl
  | [], _ :: _, h => by cases h
  | _ :: _, [], h => by cases h
  | _ :: _, _ :: _, h => by
    cases h with
    | cons h1 h2 =>
      cases h1
      rw [List.map_cons, dpa_bools h2]
theorem dpa_of_strs {K : PySem.W.Frag} {G : Hp} : ∀ ns : List Str, DpAll K G (ns.map V.str) (ns.map PyData.str)
  | [] => .nil
  | n :: ns => .cons (.str n) (dpa_of_strs ns)

/-! ### abstract values, owned objects -/
/-- a slot: data, or an owned object's address -/
inductive AV where
  | d (x : PyData) | own (a : Addr) | tl (xs : List PyData)
abbrev AS := List (Option AV)
/-- an owned object: three ints; a list of data; a dict; a dict that a loop walks -/
inductive OV where
  | pu | li (xs : List PyData) | dk (kvs : List (Key × PyData)) | dl (o : Obj) (vs : List (Key × V)) (kvs : List (Key × PyData))
abbrev OS := List (Addr × OV)
abbrev adr (O : OS) : List Addr := O.map (·.1)
def AVok (K : PySem.W.Frag) (G : Hp) (v : V) : AV → Prop
  | .d x => Dp K G v x
  | .own a => v = .ref a
  | .tl xs => ∃ a vs, v = .ref a ∧ G a = some (.lst vs) ∧ DpAll K G vs xs
def KD (K : PySem.W.Frag) (G : Hp) : List (Key × V) → List (Key × PyData) → Prop := Paired fun p q => p.1 = q.1 ∧ Dp K G p.2 q.2
def OVok (K : PySem.W.Frag) (G H : Hp) (a : Addr) : OV → Prop
  | .pu => ∃ i j k : Int, H a = some (.lst [.int i, .int j, .int k])
  | .li xs => ∃ vs, H a = some (.lst vs) ∧ DpAll K G vs xs
  | .dk kvs => ∃ vs, H a = some (.dK vs) ∧ KD K G vs kvs
  | .dl o vs kvs => H a = some (.frz o (.dK vs)) ∧ KD K G vs kvs
/-- the known part G lies in H, the owned objects beside it -/
structure Wd (K : PySem.W.Frag) (O : OS) (G H : Hp) : Prop where
  sub : Same G H
  own : ∀ p ∈ O, OVok K G H p.1 p.2
  off : ∀ p ∈ O, G p.1 = none
  nd : (adr O).Nodup
/-- what a step may do: the objects at M may change, all else of H stays; what is newly known is new -/
structure Stp (M : List Addr) (G H G' H' : Hp) : Prop where
  gg : Same G G'
  hh : ∀ b o, H b = some o → b ∉ M → H' b = some o
  fr : ∀ b, G' b ≠ none → G b = none → H b = none ∨ b ∈ M
  dm : ∀ b, H b ≠ none → H' b ≠ none
theorem Stp.refl {M : List Addr} {G H : Hp} : Stp M G H G H := ⟨Same.refl G, fun _ _ e _ => e, fun _ h e => absurd e h, fun _ h => h⟩
/-- a step, then one that may change more: what it owns besides is new -/
theorem Stp.trans' {M M' : List Addr} {G H G1 H1 G2 H2 : Hp} (a : Stp M G H G1 H1) (b : Stp M' G1 H1 G2 H2) (hm : ∀ c ∈ M', c ∈ M ∨ H c = none) : Stp M G H G2 H2 where
  gg := a.gg.trans b.gg
  hh := fun c o e n => b.hh c o (a.hh c o e n) fun z => (hm c z).elim n fun q => by rw [q] at e; cases e
  fr := fun c h e => by
    by_cases h1 : G1 c = none
    · rcases b.fr c h h1 with q | q
      · by_cases h2 : H c = none
        · exact .inl h2
        · exact absurd q (a.dm c h2)
      · exact (hm c q).elim .inr .inl
    · exact a.fr c h1 e
  dm := fun c h => b.dm c (a.dm c h)
theorem Stp.trans {M : List Addr} {G H G1 H1 G2 H2 : Hp} (a : Stp M G H G1 H1) (b : Stp M G1 H1 G2 H2) : Stp M G H G2 H2 := a.trans' b fun _ h => .inl h
theorem Stp.mono {M M' : List Addr} {G H G1 H1 : Hp} (a : Stp M G H G1 H1) (hm : ∀ c ∈ M, c ∈ M') : Stp M' G H G1 H1 := ⟨a.gg, fun c o e n => a.hh c o e fun z => n (hm c z), fun c h e => (a.fr c h e).imp id (hm c), a.dm⟩
theorem ov_some {K : PySem.W.Frag} {G H : Hp} {a : Addr} : ∀ {v : OV}, OVok K G H a v → H a ≠ none
  | .pu, h, e => by obtain ⟨_, _, _, q⟩ := h; rw [q] at e; cases e
  | .li _, h, e => by obtain ⟨_, q, _⟩ := h; rw [q] at e; cases e
  | .dk _, h, e => by obtain ⟨_, q, _⟩ := h; rw [q] at e; cases e
  | .dl _ _ _, h, e => by obtain ⟨q, _⟩ := h; rw [q] at e; cases e
theorem kd_same {K : PySem.W.Frag} {G G' : Hp} (s : Same G G') {vs : List (Key × V)} {kvs : List (Key × PyData)} (h : KD K G vs kvs) : KD K G' vs kvs := Paired.mapP h fun _ _ z => ⟨z.1, dp_same s _ _ z.2⟩
theorem ov_keep {K : PySem.W.Frag} {G H G' H' : Hp} {a : Addr} (s : Same G G') (e : ∀ o, H a = some o → H' a = some o) : ∀ {v : OV}, OVok K G H a v → OVok K G' H' a v
  | .pu, h => by obtain ⟨i, j, k, q⟩ := h; exact ⟨i, j, k, e _ q⟩
  | .li _, h => by obtain ⟨vs, q, r⟩ := h; exact ⟨vs, e _ q, dpa_same s _ _ r⟩
  | .dk _, h => by obtain ⟨vs, q, r⟩ := h; exact ⟨vs, e _ q, kd_same s r⟩
  | .dl _ _ _, h => by obtain ⟨q, r⟩ := h; exact ⟨e _ q, kd_same s r⟩
theorem av_same {K : PySem.W.Frag} {G G' : Hp} (s : Same G G') {v : V} : ∀ {a : AV}, AVok K G v a → AVok K G' v a
  | .d _, h => dp_same s _ _ h
  | .own _, h => h
  | .tl _, h => by obtain ⟨a, vs, e, h1, h2⟩ := h; exact ⟨a, vs, e, s _ _ h1, dpa_same s _ _ h2⟩
/-- behind a step that may change only some owned objects, and keeps those as they are owned -/
theorem Wd.step {K : PySem.W.Frag} {O O' : OS} {G H G' H' : Hp} (w : Wd K O G H) (hs : ∀ p ∈ O', p ∈ O) (w' : Wd K O' G' H') (st : Stp (adr O') G H G' H') : Wd K O G' H' ∧ Stp (adr O) G H G' H' := by
  have key : ∀ p ∈ O, p.1 ∈ adr O' → p ∈ O' := fun p hp hm => by
    obtain ⟨q, hq, e⟩ := List.mem_map.mp hm
    have hq' := hs q hq
    have nd := w.nd
    have : p = q := by
      obtain ⟨i, hi, ei⟩ := List.getElem_of_mem hp
      obtain ⟨j, hj, ej⟩ := List.getElem_of_mem hq'
      have h1 : (adr O)[i]? = some p.1 := by rw [List.getElem?_map, List.getElem?_eq_getElem hi, ei]; rfl
      have h2 : (adr O)[j]? = some p.1 := by rw [List.getElem?_map, List.getElem?_eq_getElem hj, ej, ← e]; rfl
      have hij : i = j := nd_ix nd h1 h2
      subst hij
      exact ei.symm.trans ej
    rw [this]; exact hq
  refine ⟨⟨w'.sub, fun p hp => ?_, fun p hp => ?_, w.nd⟩, st.mono fun b hb => ?_⟩
  · by_cases hm : p.1 ∈ adr O'
    · exact w'.own p (key p hp hm)
    · exact ov_keep st.gg (fun o e => st.hh _ o e hm) (w.own p hp)
  · by_cases hm : p.1 ∈ adr O'
    · exact w'.off p (key p hp hm)
    · by_cases e : G' p.1 = none
      · exact e
      · rcases st.fr _ e (w.off p hp) with z | z
        · exact absurd z (ov_some (w.own p hp))
        · exact absurd z hm
  · obtain ⟨q, hq, e⟩ := List.mem_map.mp hb
    exact List.mem_map.mpr ⟨q, hs q hq, e⟩
/-- a new known object -/
theorem Wd.new {K : PySem.W.Frag} {O : OS} {G H : Hp} {p : Addr} {o : HO} (w : Wd K O G H) (hp : H p = none) : Wd K O (upd G p o) (upd H p o) ∧ Stp (adr O) G H (upd G p o) (upd H p o) := by
  have gp : G p = none := w.sub.free hp
  have g : Same G (upd G p o) := fun b x e => by rw [upd_ne (ne_of_none e gp)]; exact e
  have h : Same H (upd H p o) := fun b x e => by rw [upd_ne (ne_of_none e hp)]; exact e
  refine ⟨⟨fun b x e => ?_, fun q hq => ov_keep g (h _) (w.own q hq), fun q hq => ?_, w.nd⟩, ⟨g, fun b x e _ => h b x e, fun b e1 e2 => ?_, fun b e => ?_⟩⟩
  · by_cases hb : b = p
    · rw [hb, upd_same] at e; rw [hb, upd_same]; exact e
    · rw [upd_ne hb] at e; rw [upd_ne hb]; exact w.sub b x e
  · have : q.1 ≠ p := fun z => ov_some (w.own q hq) (by rw [z]; exact hp)
    rw [upd_ne this]; exact w.off q hq
  · by_cases hb : b = p
    · rw [hb]; exact .inl hp
    · rw [upd_ne hb] at e1; exact absurd e2 e1
  · by_cases hb : b = p
    · rw [hb, upd_same]; exact fun z => nomatch z
    · rw [upd_ne hb]; exact e
theorem Wd.nil {K : PySem.W.Frag} {G H : Hp} (s : Same G H) : Wd K [] G H := ⟨s, fun _ h => (nomatch h), fun _ h => (nomatch h), List.nodup_nil⟩

/-- the slots hold what the abstract store says -/
def SD (K : PySem.W.Frag) (G : Hp) (σ : L2.St) (ds : AS) : Prop := σ.length = ds.length ∧ ∀ (i : Nat) (a : AV), ds[i]? = some (some a) → ∃ v, σ[i]? = some (some v) ∧ AVok K G v a
theorem SD.same {K : PySem.W.Frag} {G G' : Hp} {σ : L2.St} {ds : AS} (h : SD K G σ ds) (s : Same G G') : SD K G' σ ds := ⟨h.1, fun i a e => by
  obtain ⟨v, e1, e2⟩ := h.2 i a e
  exact ⟨v, e1, av_same s e2⟩⟩
theorem SD.set {K : PySem.W.Frag} {G : Hp} {σ : L2.St} {ds : AS} (h : SD K G σ ds) {v : V} {a : AV} (r : AVok K G v a) (i : Nat) : SD K G (σ.set i (some v)) (ds.set i (some a)) := by
  refine ⟨by rw [List.length_set, List.length_set]; exact h.1, fun j b e => ?_⟩
  rw [List.getElem?_set] at e
  rw [List.getElem?_set, h.1]
  by_cases hij : i = j
  · rw [if_pos hij] at e ⊢
    by_cases hl : i < ds.length
    · rw [if_pos hl] at e
      rw [if_pos hl]
      cases e
      exact ⟨v, rfl, r⟩
    · rw [if_neg hl] at e; cases e
  · rw [if_neg hij] at e ⊢
    exact h.2 j b e
theorem SD.clear {K : PySem.W.Frag} {G : Hp} {σ : L2.St} {ds : AS} (h : SD K G σ ds) (i : Nat) : SD K G (σ.set i none) (ds.set i none) := by
  refine ⟨by rw [List.length_set, List.length_set]; exact h.1, fun j b e => ?_⟩
  rw [List.getElem?_set] at e
  rw [List.getElem?_set, h.1]
  by_cases hij : i = j
  · rw [if_pos hij] at e
    split at e <;> cases e
  · rw [if_neg hij] at e ⊢
    exact h.2 j b e
def wipeD (ds : AS) : List Nat → AS
  | [] => ds
  | v :: vs => (wipeD ds vs).set v none
theorem SD.wipe {K : PySem.W.Frag} {G : Hp} {σ : L2.St} {ds : AS} (h : SD K G σ ds) : ∀ vs : List Nat, SD K G (L2.wipe σ vs) (wipeD ds vs)
  | [] => h
  | v :: vs => (SD.wipe h vs).clear v
abbrev AVs (K : PySem.W.Frag) (G : Hp) : List V → List AV → Prop := Paired (AVok K G)
theorem avs_same {K : PySem.W.Frag} {G G' : Hp} (s : Same G G') {vs : List V} {as : List AV} (h : AVs K G vs as) : AVs K G' vs as := Paired.mapP h fun _ _ z => av_same s z
theorem avs_get {K : PySem.W.Frag} {G : Hp} : ∀ {vs : List V} {as : List AV} {i : Nat} {a : AV}, AVs K G vs as → as[i]? = some a → ∃ v, vs[i]? = some v ∧ AVok K G v a
  | _, _, i, a, .nil, e => by simp at e
  | _, _, 0, a, .cons r _, e => by
    have e' := Option.some.inj (show some _ = some _ from e)
    subst e'
    exact ⟨_, rfl, r⟩
  | _, _, i + 1, a, .cons _ t, e => by
    obtain ⟨v, e1, e2⟩ := avs_get (i := i) t (by simpa using e)
    exact ⟨v, by simpa using e1, e2⟩
def startD (n : Nat) (as : List AV) : AS := as.map some ++ List.replicate (n - as.length) none
theorem SD.start {K : PySem.W.Frag} {G : Hp} {N : List Str} {vs : List V} {as : List AV} (h : AVs K G vs as) : SD K G (L2.start N vs) (startD N.length as) := by
  have hl : vs.length = as.length := Paired.length h
  refine ⟨?_, fun i a e => ?_⟩
  · unfold L2.start startD
    rw [List.length_append, List.length_append, List.length_map, List.length_map, List.length_replicate, List.length_replicate, hl]
  · unfold startD at e
    unfold L2.start
    rw [List.getElem?_append, List.length_map] at e
    rw [List.getElem?_append, List.length_map, hl]
    by_cases hi : i < as.length
    · rw [if_pos hi] at e ⊢
      rw [List.getElem?_map] at e
      cases q : as[i]? with
      | none => rw [q] at e; cases e
      | some b =>
        rw [q] at e
        have e' : b = a := Option.some.inj (Option.some.inj (show some (some b) = some (some a) from e))
        subst e'
        obtain ⟨v, e1, e2⟩ := avs_get h q
        exact ⟨v, by rw [List.getElem?_map, e1]; rfl, e2⟩
    · rw [if_neg hi] at e
      rw [List.getElem?_replicate] at e
      split at e <;> cases e
end Ea

namespace Ea
open PySem PySem.Spec PyProof.Rows L2

/-! ### the judgements -/
def Ev (X : Cx) (O : OS) (e : Expr) (ds : AS) (A : AV → Prop) : Prop := ∀ G σ H, Wd X.K O G H → SD X.K G σ ds → ∀ Q : VK,
  (∀ a v G' H', A a → Wd X.K O G' H' → Stp (adr O) G H G' H' → AVok X.K G' v a → Q v H') → pe X e σ H Q
abbrev Ed (X : Cx) (O : OS) (e : Expr) (ds : AS) (x : PyData) : Prop := Ev X O e ds (· = .d x)
def EvA (X : Cx) (O : OS) (es : List Expr) (ds : AS) (B : List AV → Prop) : Prop := ∀ G σ H, Wd X.K O G H → SD X.K G σ ds → ∀ Q : List V → Hp → Prop,
  (∀ as vs G' H', B as → Wd X.K O G' H' → Stp (adr O) G H G' H' → AVs X.K G' vs as → Q vs H') → pa X es σ H Q
def EvT (X : Cx) (O : OS) (e : Expr) (ds : AS) (b : Bool) : Prop := ∀ G σ H, Wd X.K O G H → SD X.K G σ ds → ∀ Q : Bool → Hp → Prop,
  (∀ G' H', Wd X.K O G' H' → Stp (adr O) G H G' H' → Q b H') → pt X e σ H Q
def EvW (X : Cx) (O : OS) (e : Expr) (ds : AS) (b : Bool) : Prop := ∀ G σ H, Wd X.K O G H → SD X.K G σ ds → ∀ Q : Bool → Hp → Prop,
  (∀ G' H', Wd X.K O G' H' → Stp (adr O) G H G' H' → Q b H') → pw X e σ H Q
/-- an operation on values -/
def Ro (K : PySem.W.Frag) (O : OS) (r : V → V → Hp → VK → Prop) (a b : AV) (C : AV → Prop) : Prop := ∀ G H x y, Wd K O G H → AVok K G x a → AVok K G y b → ∀ Q : VK,
  (∀ c v G' H', C c → Wd K O G' H' → Stp (adr O) G H G' H' → AVok K G' v c → Q v H') → r x y H Q
/-- a call of a built-in on values -/
def Rc (K : PySem.W.Frag) (O : OS) (r : List V → Hp → VK → Prop) (as : List AV) (C : AV → Prop) : Prop := ∀ G H xs, Wd K O G H → AVs K G xs as → ∀ Q : VK,
  (∀ c v G' H', C c → Wd K O G' H' → Stp (adr O) G H G' H' → AVok K G' v c → Q v H') → r xs H Q
section
variable {X : Cx} {O : OS} {ds : AS} {e a b c : Expr} {es : List Expr} {pos : Pos} {A B C : AV → Prop} {x y z : PyData}
theorem Ev.imp (h : Ev X O e ds A) (i : ∀ d, A d → B d) : Ev X O e ds B := fun G σ H w sd Q q => h G σ H w sd Q fun a v G' H' ha => q a v G' H' (i a ha)
theorem SD.on {K : PySem.W.Frag} {M : List Addr} {G H G' H' : Hp} {σ : L2.St} (sd : SD K G σ ds) (st : Stp M G H G' H') : SD K G' σ ds := sd.same st.gg

/-! ### names, constants -/
theorem ev_v (i : Nat) {x : Str} {a : AV} (hd : ds[i]? = some (some a) := by rfl) (hN : X.N[i]? = some x := by rfl) (hv : Vis X.env.scope x := by first | exact Or.inl rfl | exact Or.inr (Or.inl rfl) | exact Or.inr (Or.inr rfl))
    (h1 : (x == ("__debug__" : Str)) = false := by decide) (h2 : (x == ("__classdict__" : Str)) = false := by decide) : Ev X O (.Name x pos) ds (· = a) := fun G σ H w sd Q q => by
  obtain ⟨v, e1, e2⟩ := sd.2 i a hd
  exact ⟨_, pe_var hN hv h1 h2, v, e1, q a v G H rfl w Stp.refl e2⟩
theorem ed_int {i j} : Ed X O (.Constant (.int i) j pos) ds (.int i) := fun G σ H w _ Q q => ⟨_, pe_int, q _ _ G H rfl w Stp.refl (.int i)⟩
theorem ed_bl {i j} : Ed X O (.Constant (.bool i) j pos) ds (.bool i) := fun G σ H w _ Q q => ⟨_, pe_bl, q _ _ G H rfl w Stp.refl (.bl i)⟩
theorem ed_non {j} : Ed X O (.Constant .none j pos) ds .none := fun G σ H w _ Q q => ⟨_, pe_non, q _ _ G H rfl w Stp.refl .non⟩
theorem ed_str {i j} : Ed X O (.Constant (.str i) j pos) ds (.str i) := fun G σ H w _ Q q => ⟨_, pe_str, q _ _ G H rfl w Stp.refl (.str i)⟩
/-- a constant of the module -/
structure Cn (K : PySem.W.Frag) (mg : Str → Option Value) (x : Str) (d : PyData) : Prop where
  ex : ∃ v u, mg x = some u ∧ RelV v u ∧ ∀ G, Dp K G v d
theorem ed_glob {x : Str} {d : PyData} (c : Cn X.K X.mg x d) (hg : Gl X x := by rfl) (hd : (x == ("__debug__" : Str)) = false := by decide) : Ed X O (.Name x pos) ds d := fun G σ H w _ Q q => by
  obtain ⟨v, u, hm, r, k⟩ := c.ex
  exact ⟨_, pe_glob hg hm r hd, q _ _ G H rfl w Stp.refl (k G)⟩

/-! ### operations -/
theorem ev_op {op : Operator} {r : R2} (ho : OpR X (binaryOp op) r) (ha : Ev X O a ds A) (hb : Ev X O b ds B) (hr : ∀ p q, A p → B q → Ro X.K O r p q C) : Ev X O (.BinOp a op b pos) ds C := fun G σ H w sd Q q =>
  ⟨_, pe_op ho pe_ok pe_ok, ha G σ H w sd _ fun p v G1 H1 hp w1 s1 r1 => hb G1 σ H1 w1 (sd.on s1) _ fun p2 v2 G2 H2 hp2 w2 s2 r2 =>
    hr p p2 hp hp2 G2 H2 v v2 w2 (av_same s2.gg r1) r2 Q fun c v G' H' hc w3 s3 r3 => q c v G' H' hc w3 (s1.trans (s2.trans s3)) r3⟩
theorem ev_ix {r : R2} (ho : IxR X r) (ha : Ev X O a ds A) (hb : Ev X O b ds B) (hr : ∀ p q, A p → B q → Ro X.K O r p q C) (hs : PlainIx b := by exact fun _ _ => rfl) : Ev X O (.Subscript a b pos) ds C := fun G σ H w sd Q q =>
  ⟨_, pe_ix ho pe_ok pe_ok hs, ha G σ H w sd _ fun p v G1 H1 hp w1 s1 r1 => hb G1 σ H1 w1 (sd.on s1) _ fun p2 v2 G2 H2 hp2 w2 s2 r2 =>
    hr p p2 hp hp2 G2 H2 v v2 w2 (av_same s2.gg r1) r2 Q fun c v G' H' hc w3 s3 r3 => q c v G' H' hc w3 (s1.trans (s2.trans s3)) r3⟩
theorem ev_cmp {op : CmpOp} {r : R2} (ho : OpR X (compareOp op) r) (ha : Ev X O a ds A) (hb : Ev X O b ds B) (hr : ∀ p q, A p → B q → Ro X.K O r p q C) (hm : behindInMarks op b = false) : Ev X O (.Compare a [op] [b] pos) ds C := fun G σ H w sd Q q =>
  ⟨_, pe_cmpR ho pe_ok pe_ok hm, ha G σ H w sd _ fun p v G1 H1 hp w1 s1 r1 => hb G1 σ H1 w1 (sd.on s1) _ fun p2 v2 G2 H2 hp2 w2 s2 r2 =>
    hr p p2 hp hp2 G2 H2 v v2 w2 (av_same s2.gg r1) r2 Q fun c v G' H' hc w3 s3 r3 => q c v G' H' hc w3 (s1.trans (s2.trans s3)) r3⟩
theorem et_cmp {op : CmpOp} {r : R2} {k : Bool} (ho : OpR X (compareOp op) r) (ha : Ev X O a ds A) (hb : Ev X O b ds B) (hr : ∀ p q, A p → B q → Ro X.K O r p q (· = .d (.bool k))) (hm : behindInMarks op b = false) : EvT X O (.Compare a [op] [b] pos) ds k := fun G σ H w sd Q q =>
  ⟨_, pt_cmpR ho pe_ok pe_ok hm, ha G σ H w sd _ fun p v G1 H1 hp w1 s1 r1 => hb G1 σ H1 w1 (sd.on s1) _ fun p2 v2 G2 H2 hp2 w2 s2 r2 =>
    hr p p2 hp hp2 G2 H2 v v2 w2 (av_same s2.gg r1) r2 _ fun c v G' H' hc w3 s3 r3 => by
      subst hc
      cases r3
      exact ⟨k, rfl, q G' H' w3 (s1.trans (s2.trans s3))⟩⟩
/-- a value that is True or False, as a test -/
theorem et_val {k : Bool} (h : Ed X O e ds (.bool k)) (he : ∀ whole, isTrue e X.env whole = (do let v ← whole; standAt e.pos; holding [v] (truthy v)) := by intro _; rfl) : EvT X O e ds k := fun G σ H w sd Q q =>
  ⟨_, pt_val pe_ok he, h G σ H w sd _ fun p v G1 H1 hp w1 s1 r1 => by
    subst hp
    cases r1
    exact ⟨k, rfl, q G1 H1 w1 s1⟩⟩
theorem et_not {k : Bool} (h : EvT X O e ds k) : EvT X O (.UnaryOp .Not e pos) ds (!k) := fun G σ H w sd Q q =>
  ⟨_, pt_not pt_ok, h G σ H w sd _ fun G1 H1 w1 s1 => q G1 H1 w1 s1⟩
theorem et_notF (h : EvT X O e ds true) : EvT X O (.UnaryOp .Not e pos) ds false := et_not h
theorem et_notT (h : EvT X O e ds false) : EvT X O (.UnaryOp .Not e pos) ds true := et_not h
theorem et_w {k : Bool} (h : EvW X O e ds k) : EvT X O e ds k := fun G σ H w sd Q q => by
  obtain ⟨t, h1, h2⟩ := h G σ H w sd Q q
  exact ⟨t, h1.pt, h2⟩
theorem ew_and1 {k : Bool} (h : EvT X O a ds k) : EvW X O (.BoolOp .And [a] pos) ds k := fun G σ H w sd Q q => ⟨_, pw_and1 pt_ok, h G σ H w sd Q q⟩
theorem ew_or1 {k : Bool} (h : EvT X O a ds k) : EvW X O (.BoolOp .Or [a] pos) ds k := fun G σ H w sd Q q => ⟨_, pw_or1 pt_ok, h G σ H w sd Q q⟩
theorem ew_andT {k : Bool} (h : EvT X O a ds true) (h2 : EvW X O (.BoolOp .And (b :: es) pos) ds k) : EvW X O (.BoolOp .And (a :: b :: es) pos) ds k := fun G σ H w sd Q q =>
  ⟨_, pw_and pt_ok pw_ok, h G σ H w sd _ fun G1 H1 w1 s1 => iteT (h2 G1 σ H1 w1 (sd.on s1) Q fun G2 H2 w2 s2 => q G2 H2 w2 (s1.trans s2))⟩
theorem ew_andF (h : EvT X O a ds false) : EvW X O (.BoolOp .And (a :: b :: es) pos) ds false := fun G σ H w sd Q q =>
  ⟨_, pw_and pt_ok pw_ok, h G σ H w sd _ fun G1 H1 w1 s1 => iteF (q G1 H1 w1 s1)⟩
theorem ew_orF {k : Bool} (h : EvT X O a ds false) (h2 : EvW X O (.BoolOp .Or (b :: es) pos) ds k) : EvW X O (.BoolOp .Or (a :: b :: es) pos) ds k := fun G σ H w sd Q q =>
  ⟨_, pw_or pt_ok pw_ok, h G σ H w sd _ fun G1 H1 w1 s1 => iteF (h2 G1 σ H1 w1 (sd.on s1) Q fun G2 H2 w2 s2 => q G2 H2 w2 (s1.trans s2))⟩
theorem ew_orT (h : EvT X O a ds true) : EvW X O (.BoolOp .Or (a :: b :: es) pos) ds true := fun G σ H w sd Q q =>
  ⟨_, pw_or pt_ok pw_ok, h G σ H w sd _ fun G1 H1 w1 s1 => iteT (q G1 H1 w1 s1)⟩
/-- both ways at once -/
theorem ew_and {j k : Bool} (h : EvT X O a ds j) (h2 : j = true → EvW X O (.BoolOp .And (b :: es) pos) ds k) : EvW X O (.BoolOp .And (a :: b :: es) pos) ds (j && k) := by
  cases j with
  | true => exact ew_andT h (h2 rfl)
  | false => exact ew_andF h
theorem ew_or {j k : Bool} (h : EvT X O a ds j) (h2 : j = false → EvW X O (.BoolOp .Or (b :: es) pos) ds k) : EvW X O (.BoolOp .Or (a :: b :: es) pos) ds (j || k) := by
  cases j with
  | true => exact ew_orT h
  | false => exact ew_orF h (h2 rfl)
/-- and, or, not as values -/
theorem ed_one {op} (h : Ed X O a ds x) : Ed X O (.BoolOp op [a] pos) ds x := fun G σ H w sd Q q => ⟨_, pe_one pe_ok, h G σ H w sd Q q⟩
theorem ed_and {j k : Bool} (h : Ed X O a ds (.bool j)) (h2 : j = true → Ed X O (.BoolOp .And (b :: es) pos) ds (.bool k)) : Ed X O (.BoolOp .And (a :: b :: es) pos) ds (.bool (j && k)) := fun G σ H w sd Q q =>
  ⟨_, pe_and pe_ok pe_ok, h G σ H w sd _ fun p v G1 H1 hp w1 s1 r1 => by
    subst hp
    cases r1
    refine ⟨j, rfl, ?_⟩
    cases j with
    | true => exact iteT (h2 rfl G1 σ H1 w1 (sd.on s1) Q fun p v G2 H2 hp w2 s2 r2 => q p v G2 H2 hp w2 (s1.trans s2) r2)
    | false => exact iteF (q _ _ G1 H1 rfl w1 s1 (.bl false))⟩
theorem ed_not {k : Bool} (h : Ed X O a ds (.bool k)) : Ed X O (.UnaryOp .Not a pos) ds (.bool (!k)) := fun G σ H w sd Q q =>
  ⟨_, pe_not pe_ok, h G σ H w sd _ fun p v G1 H1 hp w1 s1 r1 => by
    subst hp
    cases r1
    exact ⟨k, rfl, q _ _ G1 H1 rfl w1 s1 (.bl _)⟩⟩

/-! ### rules for values: a new object known, or nothing -/
theorem ro_I {g : Int → Int → V} {i j : Int} {c : PyData} (h : ∀ G, Dp X.K G (g i j) c) : Ro X.K O (rI0 g) (.d (.int i)) (.d (.int j)) (· = .d c) := fun G H x y w hx hy Q q => by
  cases hx
  cases hy
  exact ⟨i, j, rfl, rfl, q _ _ G H rfl w Stp.refl (h G)⟩
theorem ro_IC {P : Int → Int → Prop} {g : Int → Int → V} {i j : Int} {c : PyData} (hp : P i j) (h : ∀ G, Dp X.K G (g i j) c) : Ro X.K O (rI P g) (.d (.int i)) (.d (.int j)) (· = .d c) := fun G H x y w hx hy Q q => by
  cases hx
  cases hy
  exact ⟨i, j, rfl, rfl, hp, q _ _ G H rfl w Stp.refl (h G)⟩
theorem det2 {r : V → V → Hp → VK → Prop} {K : PySem.W.Frag} {x y : AV} (h : Ro K O r x y C) : ∀ p q, p = x → q = y → Ro K O r p q C := fun p q e1 e2 => by rw [e1, e2]; exact h

theorem ed_add {i j : Int} (ha : Ed X O a ds (.int i)) (hb : Ed X O b ds (.int j)) : Ed X O (.BinOp a .Add b pos) ds (.int (i + j)) := ev_op op_add ha hb (det2 (ro_I fun _ => .int _))
theorem ed_sub {i j : Int} (ha : Ed X O a ds (.int i)) (hb : Ed X O b ds (.int j)) : Ed X O (.BinOp a .Sub b pos) ds (.int (i - j)) := ev_op op_sub ha hb (det2 (ro_I fun _ => .int _))
theorem ed_mul {i j : Int} (ha : Ed X O a ds (.int i)) (hb : Ed X O b ds (.int j)) (h : CMulW i j) : Ed X O (.BinOp a .Mult b pos) ds (.int (i * j)) := ev_op op_mulW ha hb (det2 (ro_IC h fun _ => .int _))
theorem ed_fdiv {i j : Int} (ha : Ed X O a ds (.int i)) (hb : Ed X O b ds (.int j)) (h : CDivW i j) : Ed X O (.BinOp a .FloorDiv b pos) ds (.int (i / j)) := ev_op op_fdivW ha hb (det2 (ro_IC h fun _ => .int _))
theorem ed_mod {i j : Int} (ha : Ed X O a ds (.int i)) (hb : Ed X O b ds (.int j)) (h : 0 < j) : Ed X O (.BinOp a .Mod b pos) ds (.int (i % j)) := ev_op op_mod ha hb (det2 (ro_IC h fun _ => .int _))
theorem ed_pow {i j : Int} (ha : Ed X O a ds (.int i)) (hb : Ed X O b ds (.int j)) (h : CPow i j) : Ed X O (.BinOp a .Pow b pos) ds (.int (i ^ j.toNat)) := ev_op op_pow ha hb (det2 (ro_IC h fun _ => .int _))
/-! comparisons of ints, as values and as tests -/
theorem ed_lt {i j : Int} (ha : Ed X O a ds (.int i)) (hb : Ed X O b ds (.int j)) : Ed X O (.Compare a [.Lt] [b] pos) ds (.bool (decide (i < j))) := ev_cmp op_lt ha hb (det2 (ro_I fun _ => .bl _)) (nomark _)
theorem ed_le {i j : Int} (ha : Ed X O a ds (.int i)) (hb : Ed X O b ds (.int j)) : Ed X O (.Compare a [.LtE] [b] pos) ds (.bool (decide (i ≤ j))) := ev_cmp op_le ha hb (det2 (ro_I fun _ => .bl _)) (nomark _)
theorem ed_gt {i j : Int} (ha : Ed X O a ds (.int i)) (hb : Ed X O b ds (.int j)) : Ed X O (.Compare a [.Gt] [b] pos) ds (.bool (decide (j < i))) := ev_cmp op_gt ha hb (det2 (ro_I fun _ => .bl _)) (nomark _)
theorem ed_ge {i j : Int} (ha : Ed X O a ds (.int i)) (hb : Ed X O b ds (.int j)) : Ed X O (.Compare a [.GtE] [b] pos) ds (.bool (decide (j ≤ i))) := ev_cmp op_ge ha hb (det2 (ro_I fun _ => .bl _)) (nomark _)
theorem et_lt {i j : Int} (ha : Ed X O a ds (.int i)) (hb : Ed X O b ds (.int j)) : EvT X O (.Compare a [.Lt] [b] pos) ds (decide (i < j)) := et_cmp op_lt ha hb (det2 (ro_I fun _ => .bl _)) (nomark _)
theorem et_le {i j : Int} (ha : Ed X O a ds (.int i)) (hb : Ed X O b ds (.int j)) : EvT X O (.Compare a [.LtE] [b] pos) ds (decide (i ≤ j)) := et_cmp op_le ha hb (det2 (ro_I fun _ => .bl _)) (nomark _)
theorem et_gt {i j : Int} (ha : Ed X O a ds (.int i)) (hb : Ed X O b ds (.int j)) : EvT X O (.Compare a [.Gt] [b] pos) ds (decide (j < i)) := et_cmp op_gt ha hb (det2 (ro_I fun _ => .bl _)) (nomark _)
theorem et_ge {i j : Int} (ha : Ed X O a ds (.int i)) (hb : Ed X O b ds (.int j)) : EvT X O (.Compare a [.GtE] [b] pos) ds (decide (j ≤ i)) := et_cmp op_ge ha hb (det2 (ro_I fun _ => .bl _)) (nomark _)
theorem EvT.to {k k' : Bool} (h : EvT X O e ds k) (q : k = k') : EvT X O e ds k' := q ▸ h
/-- a op b op2 c as a test -/
theorem et_le2 {i j k : Int} (ha : Ed X O a ds (.int i)) (hb : Ed X O b ds (.int j)) (hc : Ed X O c ds (.int k)) (hm : lastMarks [.LtE, .LtE] [b, c] = false := by with_unfolding_all rfl) : EvT X O (.Compare a [.LtE, .LtE] [b, c] pos) ds (decide (i ≤ j) && decide (j ≤ k)) := fun G σ H w sd Q q =>
  ⟨_, pt_chain op_le op_le pe_ok pe_ok pe_ok hm, ha G σ H w sd _ fun p v G1 H1 hp w1 s1 r1 => hb G1 σ H1 w1 (sd.on s1) _ fun p2 v2 G2 H2 hp2 w2 s2 r2 => by
    subst hp hp2
    cases r1
    cases r2
    refine ⟨i, j, rfl, rfl, _, rfl, ?_⟩
    by_cases hij : i ≤ j
    · refine ite2 (fun _ => ?_) (fun z => absurd (decide_eq_true hij) z)
      refine hc G2 σ H2 w2 (sd.on (s1.trans s2)) _ fun p3 v3 G3 H3 hp3 w3 s3 r3 => ?_
      subst hp3
      cases r3
      refine ⟨j, k, rfl, rfl, _, rfl, ?_⟩
      have e : (decide (i ≤ j) && decide (j ≤ k)) = decide (j ≤ k) := by rw [decide_eq_true hij, Bool.true_and]
      rw [e] at q
      exact q G3 H3 w3 (s1.trans (s2.trans s3))
    · refine ite2 (fun z => absurd (of_decide_eq_true z) hij) (fun _ => ?_)
      refine ⟨false, rfl, ?_⟩
      have e : (decide (i ≤ j) && decide (j ≤ k)) = false := by rw [decide_eq_false hij, Bool.false_and]
      rw [e] at q
      exact q G2 H2 w2 (s1.trans s2)⟩
/-! equality of data -/
theorem ro_eqD (hx : SeqAt.shaped x = true) (hy : SeqAt.shaped y = true) : Ro X.K O (rEqD X.K) (.d x) (.d y) (· = .d (.bool (PyData.eqv x y))) := fun G H u v w hu hv Q q =>
  ⟨x, y, dp_same w.sub _ _ hu, dp_same w.sub _ _ hv, hx, hy, q _ _ G H rfl w Stp.refl (.bl _)⟩
theorem ro_neD (hx : SeqAt.shaped x = true) (hy : SeqAt.shaped y = true) : Ro X.K O (rNeD X.K) (.d x) (.d y) (· = .d (.bool (!PyData.eqv x y))) := fun G H u v w hu hv Q q =>
  ⟨x, y, dp_same w.sub _ _ hu, dp_same w.sub _ _ hv, hx, hy, q _ _ G H rfl w Stp.refl (.bl _)⟩
theorem ed_eq {k : Nat} (hr : Room k X.A) (ha : Ed X O a ds x) (hb : Ed X O b ds y) (hx : SeqAt.shaped x = true) (hy : SeqAt.shaped y = true) : Ed X O (.Compare a [.Eq] [b] pos) ds (.bool (PyData.eqv x y)) := ev_cmp (op_eqD hr.units) ha hb (det2 (ro_eqD hx hy)) (nomark _)
theorem ed_ne {k : Nat} (hr : Room k X.A) (ha : Ed X O a ds x) (hb : Ed X O b ds y) (hx : SeqAt.shaped x = true) (hy : SeqAt.shaped y = true) : Ed X O (.Compare a [.NotEq] [b] pos) ds (.bool (!PyData.eqv x y)) := ev_cmp (op_neD hr.units) ha hb (det2 (ro_neD hx hy)) (nomark _)
theorem et_eq {k : Nat} (hr : Room k X.A) (ha : Ed X O a ds x) (hb : Ed X O b ds y) (hx : SeqAt.shaped x = true) (hy : SeqAt.shaped y = true) : EvT X O (.Compare a [.Eq] [b] pos) ds (PyData.eqv x y) := et_cmp (op_eqD hr.units) ha hb (det2 (ro_eqD hx hy)) (nomark _)
theorem et_ne {k : Nat} (hr : Room k X.A) (ha : Ed X O a ds x) (hb : Ed X O b ds y) (hx : SeqAt.shaped x = true) (hy : SeqAt.shaped y = true) : EvT X O (.Compare a [.NotEq] [b] pos) ds (!PyData.eqv x y) := et_cmp (op_neD hr.units) ha hb (det2 (ro_neD hx hy)) (nomark _)
def isNon : PyData → Bool
  | .none => true
  | _ => false
theorem dp_non {K : PySem.W.Frag} {G : Hp} {v : V} : ∀ {x : PyData}, Dp K G v x → decide (v = .non) = isNon x
  | .none, h => by cases h; rfl
  | .bool _, h => by cases h; rfl
  | .int _, h => by cases h; rfl
  | .str _, h => by cases h; rfl
  | .list _, h => by cases h; rfl
  | .tuple _, h => by cases h; rfl
  | .dict _, h => by cases h
theorem et_isN {j p2} (ha : Ed X O a ds x) : EvT X O (.Compare a [.Is] [.Constant .none j p2] pos) ds (isNon x) := et_cmp op_isN ha ed_non (det2 fun G H u v w hu hv Q q => by
  cases hv
  refine ⟨rfl, ?_⟩
  rw [dp_non hu]
  exact q _ _ G H rfl w Stp.refl (.bl _)) (nomark _)
theorem et_notN {j p2} (ha : Ed X O a ds x) : EvT X O (.Compare a [.IsNot] [.Constant .none j p2] pos) ds (!isNon x) := et_cmp op_notN ha ed_non (det2 fun G H u v w hu hv Q q => by
  cases hv
  refine ⟨rfl, ?_⟩
  rw [dp_non hu]
  exact q _ _ G H rfl w Stp.refl (.bl _)) (nomark _)
/-! a text in a tuple of texts -/
theorem inV_strs (s : Str) : ∀ l : List Str, inV (.str s) (l.map V.str) = l.any (· == s)
  | [] => rfl
  | t :: l => by
    show ((t == s) || inV (.str s) (l.map V.str)) = _
    rw [inV_strs s l]
    rfl
theorem strs_flat : ∀ l : List Str, (l.map V.str).all flatV = true
  | [] => rfl
  | _ :: l => strs_flat l
theorem dpa_strs {K : PySem.W.Frag} {G : Hp} : ∀ {vs : List V} {ns : List Str}, DpAll K G vs (ns.map PyData.str) → vs = ns.map V.str
  | [], [], _ => rfl
  | [], _ :: _, h => by cases h
  | _ :: _, [], h => by cases h
  | _ :: _, _ :: _, h => by
    cases h with
    | cons h1 h2 =>
      cases h1
      rw [List.map_cons, dpa_strs h2]
theorem ro_in {neg : Bool} {s : Str} {l : List Str} : Ro X.K O (rIn X.K neg) (.d (.str s)) (.d (.tuple (l.map PyData.str))) (· = .d (.bool (if neg then !l.any (· == s) else l.any (· == s)))) := fun G H u v w hu hv Q q => by
  cases hu
  cases hv with
  | tup hs ha =>
    have e := dpa_strs ha
    subst e
    refine ⟨_, _, rfl, .inr (same_t w.sub hs), rfl, strs_flat l, ?_⟩
    rw [inV_strs]
    exact q _ _ G H rfl w Stp.refl (.bl _)
theorem ed_inS {s : Str} {l : List Str} (ha : Ed X O a ds (.str s)) (hb : Ed X O b ds (.tuple (l.map PyData.str))) (hm : behindInMarks .In b = false := by rfl) : Ed X O (.Compare a [.In] [b] pos) ds (.bool (l.any (· == s))) := ev_cmp op_in_seq ha hb (det2 ro_in) hm
theorem et_inS {s : Str} {l : List Str} (ha : Ed X O a ds (.str s)) (hb : Ed X O b ds (.tuple (l.map PyData.str))) (hm : behindInMarks .In b = false := by rfl) : EvT X O (.Compare a [.In] [b] pos) ds (l.any (· == s)) := et_cmp op_in_seq ha hb (det2 ro_in) hm
theorem et_niS {s : Str} {l : List Str} (ha : Ed X O a ds (.str s)) (hb : Ed X O b ds (.tuple (l.map PyData.str))) (hm : behindInMarks .NotIn b = false := by rfl) : EvT X O (.Compare a [.NotIn] [b] pos) ds (!l.any (· == s)) := et_cmp op_notIn_seq ha hb (det2 ro_in) hm

/-! ### items -/
theorem atI_dpa {K : PySem.W.Frag} {G : Hp} {vs : List V} {xs : List PyData} {i : Int} {d : PyData} (h : DpAll K G vs xs) (e : atI xs i = some d) : ∃ v, atI vs i = some v ∧ Dp K G v d := by
  unfold atI at e ⊢
  rw [dpa_len h]
  cases q : ixN xs.length i with
  | none => rw [q] at e; cases e
  | some j =>
    rw [q] at e
    exact dpa_at h e
theorem ro_ixT {xs : List PyData} {i : Int} {d : PyData} (e : atI xs i = some d) : Ro X.K O (rIxT X.K) (.d (.tuple xs)) (.d (.int i)) (· = .d d) := fun G H u v w hu hv Q q => by
  cases hv
  cases hu with
  | tup hs ha =>
    obtain ⟨v, e1, e2⟩ := atI_dpa ha e
    exact ⟨_, _, _, v, rfl, rfl, same_t w.sub hs, e1, q _ _ G H rfl w Stp.refl e2⟩
theorem ro_ixL {xs : List PyData} {i : Int} {d : PyData} (e : atI xs i = some d) : Ro X.K O (rIxL X.K) (.d (.list xs)) (.d (.int i)) (· = .d d) := fun G H u v w hu hv Q q => by
  cases hv
  cases hu with
  | lst hs ha =>
    obtain ⟨v, e1, e2⟩ := atI_dpa ha e
    exact ⟨_, _, _, v, rfl, rfl, w.sub.seq hs, e1, q _ _ G H rfl w Stp.refl e2⟩
theorem ed_ixT {xs : List PyData} {i : Int} {d : PyData} (ha : Ed X O a ds (.tuple xs)) (hb : Ed X O b ds (.int i)) (e : atI xs i = some d := by rfl) (hs : PlainIx b := by exact fun _ _ => rfl) : Ed X O (.Subscript a b pos) ds d := ev_ix ix_tup ha hb (det2 (ro_ixT e)) hs
theorem ed_ixL {xs : List PyData} {i : Int} {d : PyData} (ha : Ed X O a ds (.list xs)) (hb : Ed X O b ds (.int i)) (e : atI xs i = some d := by rfl) (hs : PlainIx b := by exact fun _ _ => rfl) : Ed X O (.Subscript a b pos) ds d := ev_ix ix_list ha hb (det2 (ro_ixL e)) hs

/-! ### argument lists, displays, calls -/
theorem ea_nil : EvA X O [] ds (· = []) := fun G σ H w _ Q q => ⟨_, pa_nil, q [] [] G H rfl w Stp.refl .nil⟩
theorem ea_consN {B : List AV → Prop} {C : List AV → Prop} (ha : Ev X O e ds A) (hr : EvA X O es ds B) (i : ∀ a as, A a → B as → C (a :: as)) (hs : starEach (e :: es) X.env = (false, eval e X.env) :: starEach es X.env := by rfl) : EvA X O (e :: es) ds C := fun G σ H w sd Q q =>
  ⟨_, pa_cons pe_ok pa_ok hs, ha G σ H w sd _ fun p v G1 H1 hp w1 s1 r1 => hr G1 σ H1 w1 (sd.on s1) _ fun ps vs G2 H2 hps w2 s2 r2 =>
    q (p :: ps) (v :: vs) G2 H2 (i p ps hp hps) w2 (s1.trans s2) (.cons (av_same s2.gg r1) r2)⟩
theorem ea_cons {p : AV} {ps : List AV} (ha : Ev X O e ds (· = p)) (hr : EvA X O es ds (· = ps)) (hs : starEach (e :: es) X.env = (false, eval e X.env) :: starEach es X.env := by rfl) : EvA X O (e :: es) ds (· = p :: ps) :=
  ea_consN ha hr (fun a as e1 e2 => by rw [e1, e2]) hs
theorem avs_data {K : PySem.W.Frag} {G : Hp} : ∀ {vs : List V} {xs : List PyData}, AVs K G vs (xs.map AV.d) → DpAll K G vs xs
  | _, [], h => by cases h; exact .nil
  | _, _ :: _, h => by
    cases h with
    | cons h1 h2 => exact .cons h1 (avs_data h2)
theorem sz15 {n : Nat} (h : n ≤ 1000) : n ≤ sizeLine := Nat.le_trans h (by decide)
theorem ev_tup {k} {B : List AV → Prop} (h : EvA X O es ds B) (i : ∀ as, B as → ∃ xs, as = xs.map AV.d ∧ xs.length ≤ 1000 ∧ A (.d (.tuple xs))) : Ev X O (.Tuple es k pos) ds A := fun G σ H w sd Q q =>
  ⟨_, pe_tup pa_ok, h G σ H w sd _ fun as vs G1 H1 hb w1 s1 r1 => by
    obtain ⟨xs, e, hl, ha⟩ := i as hb
    subst e
    have r2 := avs_data r1
    refine ⟨by rw [dpa_len r2]; exact sz15 hl, fun p hp => ?_⟩
    obtain ⟨w2, s2⟩ := w1.new (o := .tup vs) hp
    exact q _ _ _ _ ha w2 (s1.trans s2) (.tup (.inl (.inl upd_same)) (dpa_same s2.gg _ _ r2))⟩
theorem ed_tup {k} {xs : List PyData} (h : EvA X O es ds (· = xs.map AV.d)) (hl : xs.length ≤ 1000 := by decide) : Ed X O (.Tuple es k pos) ds (.tuple xs) := ev_tup h fun as e => ⟨xs, e, hl, rfl⟩
theorem ev_lst {B : List AV → Prop} (h : EvA X O es ds B) (i : ∀ as, B as → ∃ xs, as = xs.map AV.d ∧ xs.length ≤ 1000 ∧ A (.d (.list xs))) : Ev X O (.List es pos) ds A := fun G σ H w sd Q q =>
  ⟨_, pe_lst pa_ok, h G σ H w sd _ fun as vs G1 H1 hb w1 s1 r1 => by
    obtain ⟨xs, e, hl, ha⟩ := i as hb
    subst e
    have r2 := avs_data r1
    refine ⟨by rw [dpa_len r2]; exact sz15 hl, fun p hp => ?_⟩
    obtain ⟨w2, s2⟩ := w1.new (o := .lst vs) hp
    exact q _ _ _ _ ha w2 (s1.trans s2) (.lst (.inl (.inl upd_same)) (dpa_same s2.gg _ _ r2))⟩
theorem ed_lst {xs : List PyData} (h : EvA X O es ds (· = xs.map AV.d)) (hl : xs.length ≤ 1000 := by decide) : Ed X O (.List es pos) ds (.list xs) := ev_lst h fun as e => ⟨xs, e, hl, rfl⟩

/-! ### defs -/
/-- what a def is asked and what it hands back -/
abbrev RF := OS → List AV → (PyData → Prop) → Prop
def spA (R : RF) (K : PySem.W.Frag) : Sp := fun vs H Q _ => ∃ G O as A, R O as A ∧ Wd K O G H ∧ AVs K G vs as ∧ ∀ d v G' H', A d → Wd K O G' H' → Stp (adr O) G H G' H' → Dp K G' v d → Q v H'
structure Df (P : Program) (w : World) (K : PySem.W.Frag) (mg : Str → Option Value) (base : Heap) (k : Nat) (x : Str) (R : RF) : Prop where
  ex : ∃ (f : Addr) (fd : FuncData) (ps : List Str), FnOk P w K mg base CX0 k f fd ps (spA R K) ∧ mg x = some (.ref f) ∧ PySem.W.keepIn K (.ref f) = true ∧ Binds K fd ps []
def subO (O' O : OS) : Prop := (∀ q ∈ O', q ∈ O) ∧ (adr O').Nodup
theorem subO_nil {O : OS} : subO [] O := ⟨fun _ h => (nomatch h), List.nodup_nil⟩
theorem subO_one {O : OS} {p : Addr × OV} (h : p ∈ O) : subO [p] O := ⟨fun q hq => by rw [List.mem_singleton.mp hq]; exact h, by show [p.1].Nodup; simp⟩
theorem ev_call {x : Str} {R : RF} {j k : Nat} {p : Pos} {B : List AV → Prop} (D : Df X.prog X.w X.K X.mg X.base k x R) (hr : Room j X.A) (hk : k ≤ j) (ha : EvA X O (e :: es) ds B)
    (h : ∀ as, B as → ∃ O' A', R O' as A' ∧ subO O' O ∧ ∀ d, A' d → A (.d d)) (hg : Gl X x := by rfl) (hdb : (x == ("__debug__" : Str)) = false := by decide)
    (he : starEach (e :: es) X.env = (false, eval e X.env) :: starEach es X.env := by rfl) (hpl : (backTo pos (starEach es X.env)).any (·.1) = false := by rfl) : Ev X O (.Call (.Name x p) (e :: es) [] pos) ds A := fun G σ H w sd Q q => by
  obtain ⟨f, fd, ps, F, hm, hkp, hb⟩ := D.ex
  refine ⟨_, pe_call F (hr.mono hk) hg hm hkp hb .nil pass0 pa_ok hdb he hpl, ha G σ H w sd _ fun as vs G1 H1 hB w1 s1 r1 => ?_⟩
  obtain ⟨O', A', hR, hsub, hA⟩ := h as hB
  rw [List.append_nil]
  refine ⟨G1, O', as, A', hR, ⟨w1.sub, fun p hp => w1.own p (hsub.1 p hp), fun p hp => w1.off p (hsub.1 p hp), hsub.2⟩, r1, fun d v G2 H2 hd w2 s2 r2 => ?_⟩
  obtain ⟨w3, s3⟩ := w1.step hsub.1 w2 s2
  exact q _ _ _ _ (hA d hd) w3 (s1.trans s3) r2
theorem ed_call {x : Str} {R : RF} {j k : Nat} {p : Pos} {as : List AV} {r : PyData} (D : Df X.prog X.w X.K X.mg X.base k x R) (hr : Room j X.A) (hk : k ≤ j) (ha : EvA X O (e :: es) ds (· = as))
    (h : R [] as (· = r)) (hg : Gl X x := by rfl) (hdb : (x == ("__debug__" : Str)) = false := by decide)
    (he : starEach (e :: es) X.env = (false, eval e X.env) :: starEach es X.env := by rfl) (hpl : (backTo pos (starEach es X.env)).any (·.1) = false := by rfl) : Ed X O (.Call (.Name x p) (e :: es) [] pos) ds r :=
  ev_call D hr hk ha (fun _ q => ⟨[], (· = r), by rw [q]; exact h, subO_nil, fun _ z => congrArg AV.d z⟩) hg hdb he hpl

theorem ed_callO {x : Str} {R : RF} {j k : Nat} {p : Pos} {as : List AV} {r : PyData} {O' : OS} (D : Df X.prog X.w X.K X.mg X.base k x R) (hr : Room j X.A) (hk : k ≤ j) (ha : EvA X O (e :: es) ds (· = as))
    (h : R O' as (· = r)) (hs : subO O' O) (hg : Gl X x := by rfl) (hdb : (x == ("__debug__" : Str)) = false := by decide)
    (he : starEach (e :: es) X.env = (false, eval e X.env) :: starEach es X.env := by rfl) (hpl : (backTo pos (starEach es X.env)).any (·.1) = false := by rfl) : Ed X O (.Call (.Name x p) (e :: es) [] pos) ds r :=
  ev_call D hr hk ha (fun _ q => ⟨O', (· = r), by rw [q]; exact h, hs, fun _ z => congrArg AV.d z⟩) hg hdb he hpl

/-! ### built-ins -/
theorem ev_callB {x : Str} {id : String} {r : List V → Hp → VK → Prop} {p : Pos} {as : List AV} (hc : CallR X (.builtin id) r) (hm : X.mg x = none) (hv : bootBuiltins x = some (.builtin id)) (ha : EvA X O (e :: es) ds (· = as)) (h : Rc X.K O r as A)
    (hg : Gl X x := by rfl) (hn : x ≠ "__name__" := by decide) (hdb : (x == ("__debug__" : Str)) = false := by decide)
    (he : starEach (e :: es) X.env = (false, eval e X.env) :: starEach es X.env := by rfl) (hpl : (backTo pos (starEach es X.env)).any (·.1) = false := by rfl) : Ev X O (.Call (.Name x p) (e :: es) [] pos) ds A := fun G σ H w sd Q q =>
  ⟨_, pe_callB hc hg hm hv pa_ok hn hdb he hpl, ha G σ H w sd _ fun as' vs G1 H1 hB w1 s1 r1 => by
    subst hB
    exact h G1 H1 vs w1 r1 Q fun c v G2 H2 hc w2 s2 r2 => q c v G2 H2 hc w2 (s1.trans s2) r2⟩
theorem ev_callTy {x : Str} {T : String} {r : List V → Hp → VK → Prop} {p : Pos} {as : List AV} (hc : CallR X (.type T) r) (hm : X.mg x = none) (hv : bootBuiltins x = some (.type T)) (ha : EvA X O (e :: es) ds (· = as)) (h : Rc X.K O r as A)
    (hg : Gl X x := by rfl) (hn : x ≠ "__name__" := by decide) (hdb : (x == ("__debug__" : Str)) = false := by decide)
    (he : starEach (e :: es) X.env = (false, eval e X.env) :: starEach es X.env := by rfl) (hpl : (backTo pos (starEach es X.env)).any (·.1) = false := by rfl) : Ev X O (.Call (.Name x p) (e :: es) [] pos) ds A := fun G σ H w sd Q q =>
  ⟨_, pe_callTy hc hg hm hv pa_ok hn hdb he hpl, ha G σ H w sd _ fun as' vs G1 H1 hB w1 s1 r1 => by
    subst hB
    exact h G1 H1 vs w1 r1 Q fun c v G2 H2 hc w2 s2 r2 => q c v G2 H2 hc w2 (s1.trans s2) r2⟩
theorem avs1 {K : PySem.W.Frag} {G : Hp} {vs : List V} {a : AV} (h : AVs K G vs [a]) : ∃ v, vs = [v] ∧ AVok K G v a := by
  cases h with
  | cons h1 h2 => cases h2; exact ⟨_, rfl, h1⟩
theorem avs2 {K : PySem.W.Frag} {G : Hp} {vs : List V} {a b : AV} (h : AVs K G vs [a, b]) : ∃ v u, vs = [v, u] ∧ AVok K G v a ∧ AVok K G u b := by
  cases h with
  | cons h1 h2 =>
    cases h2 with
    | cons h3 h4 => cases h4; exact ⟨_, _, rfl, h1, h3⟩
theorem ed_len {p : Pos} {xs : List PyData} (hm : X.mg "len" = none) (ha : Ed X O e ds x) (h : x = .list xs ∨ x = .tuple xs) (hg : Gl X "len" := by rfl)
    (he : starEach (e :: []) X.env = (false, eval e X.env) :: starEach [] X.env := by rfl) (hpl : (backTo pos (starEach [] X.env)).any (·.1) = false := by rfl) : Ed X O (.Call (.Name "len" p) [e] [] pos) ds (.int (xs.length : Nat)) :=
  ev_callB call_len_seq hm PySem.boot_len (ea_cons ha ea_nil he) (fun G H vs w r Q q => by
    obtain ⟨v, rfl, r1⟩ := avs1 r
    rcases h with h | h
    · subst h
      cases r1 with
      | lst hs hd =>
        refine ⟨_, _, rfl, .inl (w.sub.seq hs), ?_⟩
        rw [dpa_len hd]
        exact q _ _ G H rfl w Stp.refl (.int _)
    · subst h
      cases r1 with
      | tup hs hd =>
        refine ⟨_, _, rfl, .inr (same_t w.sub hs), ?_⟩
        rw [dpa_len hd]
        exact q _ _ G H rfl w Stp.refl (.int _)) hg (by decide) (by decide) he hpl
theorem ed_abs {p : Pos} {i : Int} (hm : X.mg "abs" = none) (ha : Ed X O e ds (.int i)) (hg : Gl X "abs" := by rfl)
    (he : starEach (e :: []) X.env = (false, eval e X.env) :: starEach [] X.env := by rfl) (hpl : (backTo pos (starEach [] X.env)).any (·.1) = false := by rfl) : Ed X O (.Call (.Name "abs" p) [e] [] pos) ds (.int (i.natAbs : Nat)) :=
  ev_callB call_abs hm (by decide +kernel) (ea_cons ha ea_nil he) (fun G H vs w r Q q => by
    obtain ⟨v, rfl, r1⟩ := avs1 r
    cases r1
    refine ⟨i, rfl, ?_⟩
    rw [show (if i < 0 then -i else i) = ((i.natAbs : Nat) : Int) by split <;> omega]
    exact q _ _ G H rfl w Stp.refl (.int _)) hg (by decide) (by decide) he hpl
theorem ed_max {p : Pos} {i j : Int} {e2 : Expr} (hcm : X.calm = true) (hm : X.mg "max" = none) (ha : Ed X O e ds (.int i)) (hb : Ed X O e2 ds (.int j)) (hg : Gl X "max" := by rfl)
    (he : starEach (e :: [e2]) X.env = (false, eval e X.env) :: starEach [e2] X.env := by rfl) (he2 : starEach [e2] X.env = (false, eval e2 X.env) :: starEach [] X.env := by rfl) (hpl : (backTo pos (starEach [e2] X.env)).any (·.1) = false := by rfl) : Ed X O (.Call (.Name "max" p) [e, e2] [] pos) ds (.int (if j > i then j else i)) :=
  ev_callB (call_max2 hcm) hm (by decide +kernel) (ea_cons ha (ea_cons hb ea_nil he2) he) (fun G H vs w r Q q => by
    obtain ⟨v, u, rfl, r1, r2⟩ := avs2 r
    cases r1
    cases r2
    exact ⟨i, j, rfl, q _ _ G H rfl w Stp.refl (.int _)⟩) hg (by decide) (by decide) he hpl
theorem ed_min {p : Pos} {i j : Int} {e2 : Expr} (hcm : X.calm = true) (hm : X.mg "min" = none) (ha : Ed X O e ds (.int i)) (hb : Ed X O e2 ds (.int j)) (hg : Gl X "min" := by rfl)
    (he : starEach (e :: [e2]) X.env = (false, eval e X.env) :: starEach [e2] X.env := by rfl) (he2 : starEach [e2] X.env = (false, eval e2 X.env) :: starEach [] X.env := by rfl) (hpl : (backTo pos (starEach [e2] X.env)).any (·.1) = false := by rfl) : Ed X O (.Call (.Name "min" p) [e, e2] [] pos) ds (.int (if j < i then j else i)) :=
  ev_callB (call_min2 hcm) hm (by decide +kernel) (ea_cons ha (ea_cons hb ea_nil he2) he) (fun G H vs w r Q q => by
    obtain ⟨v, u, rfl, r1, r2⟩ := avs2 r
    cases r1
    cases r2
    exact ⟨i, j, rfl, q _ _ G H rfl w Stp.refl (.int _)⟩) hg (by decide) (by decide) he hpl
theorem ed_intB {p : Pos} {k : Bool} (hm : X.mg "int" = none) (ha : Ed X O e ds (.bool k)) (hg : Gl X "int" := by rfl)
    (he : starEach (e :: []) X.env = (false, eval e X.env) :: starEach [] X.env := by rfl) (hpl : (backTo pos (starEach [] X.env)).any (·.1) = false := by rfl) : Ed X O (.Call (.Name "int" p) [e] [] pos) ds (.int (if k then 1 else 0)) :=
  ev_callTy call_int1 hm (by decide +kernel) (ea_cons ha ea_nil he) (fun G H vs w r Q q => by
    obtain ⟨v, rfl, r1⟩ := avs1 r
    cases r1
    exact .inr ⟨k, rfl, q _ _ G H rfl w Stp.refl (.int _)⟩) hg (by decide) (by decide) he hpl
theorem ed_sum {p : Pos} {ns : List Int} (hcm : X.calm = true) (hm : X.mg "sum" = none) (ha : Ed X O e ds (.list (ns.map PyData.int))) (hg : Gl X "sum" := by rfl)
    (he : starEach (e :: []) X.env = (false, eval e X.env) :: starEach [] X.env := by rfl) (hpl : (backTo pos (starEach [] X.env)).any (·.1) = false := by rfl) : Ed X O (.Call (.Name "sum" p) [e] [] pos) ds (.int ns.sum) :=
  ev_callB (cr_sum hcm) hm (by decide +kernel) (ea_cons ha ea_nil he) (fun G H vs w r Q q => by
    obtain ⟨v, rfl, r1⟩ := avs1 r
    cases r1 with
    | lst hs hd =>
      have e := dpa_ints hd
      subst e
      exact ⟨_, ns, rfl, w.sub.seq hs, q _ _ G H rfl w Stp.refl (.int _)⟩) hg (by decide) (by decide) he hpl
theorem ed_all {p : Pos} {ns : List Bool} (hcm : X.calm = true) (hm : X.mg "all" = none) (ha : Ed X O e ds (.list (ns.map PyData.bool))) (hg : Gl X "all" := by rfl)
    (he : starEach (e :: []) X.env = (false, eval e X.env) :: starEach [] X.env := by rfl) (hpl : (backTo pos (starEach [] X.env)).any (·.1) = false := by rfl) : Ed X O (.Call (.Name "all" p) [e] [] pos) ds (.bool (ns.all id)) :=
  ev_callB (cr_all hcm) hm (by decide +kernel) (ea_cons ha ea_nil he) (fun G H vs w r Q q => by
    obtain ⟨v, rfl, r1⟩ := avs1 r
    cases r1 with
    | lst hs hd =>
      have e := dpa_bools hd
      subst e
      exact ⟨_, ns, rfl, w.sub.seq hs, q _ _ G H rfl w Stp.refl (.bl _)⟩) hg (by decide) (by decide) he hpl
theorem ed_tupleL {p : Pos} {xs : List PyData} (hm : X.mg "tuple" = none) (ha : Ed X O e ds (.list xs)) (hg : Gl X "tuple" := by rfl)
    (he : starEach (e :: []) X.env = (false, eval e X.env) :: starEach [] X.env := by rfl) (hpl : (backTo pos (starEach [] X.env)).any (·.1) = false := by rfl) : Ed X O (.Call (.Name "tuple" p) [e] [] pos) ds (.tuple xs) :=
  ev_callTy call_tuple_of hm (by decide +kernel) (ea_cons ha ea_nil he) (fun G H vs w r Q q => by
    obtain ⟨v, rfl, r1⟩ := avs1 r
    cases r1 with
    | lst hs hd =>
      refine ⟨_, _, rfl, .inl ⟨w.sub.seq hs, fun l hl => ?_⟩⟩
      obtain ⟨w2, s2⟩ := w.new (o := .tup _) hl
      exact q _ _ _ _ rfl w2 s2 (.tup (.inl (.inl upd_same)) (dpa_same s2.gg _ _ hd))) hg (by decide) (by decide) he hpl
/-! isinstance of a built-in class -/
def tyN : PyData → String
  | .none => "NoneType" | .bool _ => "bool" | .int _ => "int" | .str _ => "str" | .list _ => "list" | .tuple _ => "tuple" | .dict _ => "dict"
theorem ty_dp {K : PySem.W.Frag} {G H : Hp} (s : Same G H) {v : V} : ∀ {x : PyData}, Dp K G v x → TyX K H v (.type (tyN x))
  | .none, h => by cases h; exact .base .non
  | .bool _, h => by cases h; exact .base (.bl _)
  | .int _, h => by cases h; exact .base (.int _)
  | .str _, h => by cases h; exact .base (.str _)
  | .list _, h => by
    cases h with
    | lst hs _ =>
      rcases hs with (hs | ⟨o, hs⟩) | ⟨o, its, n, h1, h2, _⟩
      · exact .base (.lst (s _ _ hs))
      · exact .base (.frz (s _ _ hs))
      · exact .kList h1 h2
  | .tuple _, h => by
    cases h with
    | tup hs _ =>
      rcases hs with (hs | ⟨o, hs⟩) | ⟨o, its, n, h1, h2, _⟩
      · exact .base (.tup (s _ _ hs))
      · exact .fTuple (s _ _ hs)
      · exact .kTuple h1 h2
  | .dict _, h => by cases h
theorem ed_isi {p p2 : Pos} {T : Str} {n : String} {k : Bool} (hm : X.mg "isinstance" = none) (hT : X.mg T = none) (hv : bootBuiltins T = some (.type n)) (ha : Ed X O e ds x) (hk : kitB (tyN x) n = some k) (hgT : Gl X T := by rfl) (hnT : T ≠ "__name__" := by decide) (hdT : (T == ("__debug__" : Str)) = false := by decide) (hg : Gl X "isinstance" := by rfl)
    (he : starEach (e :: [.Name T p2]) X.env = (false, eval e X.env) :: starEach [.Name T p2] X.env := by rfl) (he2 : starEach [.Name T p2] X.env = (false, eval (.Name T p2) X.env) :: starEach [] X.env := by rfl) (hpl : (backTo pos (starEach [.Name T p2] X.env)).any (·.1) = false := by rfl) : Ed X O (.Call (.Name "isinstance" p) [e, .Name T p2] [] pos) ds (.bool k) := fun G σ H w sd Q q =>
  ⟨_, pe_callB call_isi hg hm (by decide +kernel) (pa_cons pe_ok (pa_cons (pe_bltn (v := .ty n) hgT hT hv rfl hnT hdT) pa_nil he2) he) (by decide) (by decide) he hpl, ha G σ H w sd _ fun a v G1 H1 hB w1 s1 r1 => by
    subst hB
    exact ⟨v, .ty n, _, _, k, rfl, .ty n, ty_dp w1.sub r1, kit_ty hk, q _ _ G1 H1 rfl w1 s1 (.bl _)⟩⟩
/-! slices -/
theorem ev_part {o : Option Expr} {oi : Option Int} (h : (o = none ∧ oi = none) ∨ ∃ e i, o = some e ∧ oi = some i ∧ Ed X O e ds (.int i)) : ∃ t, PO X o t ∧ ∀ G σ H, Wd X.K O G H → SD X.K G σ ds → ∀ Q : Option Int → Hp → Prop,
    (∀ G' H', Wd X.K O G' H' → Stp (adr O) G H G' H' → Q oi H') → t σ H Q := by
  rcases h with ⟨rfl, rfl⟩ | ⟨e, i, rfl, rfl, h⟩
  · exact ⟨_, po_none, fun G σ H w sd Q q => q G H w Stp.refl⟩
  · refine ⟨_, po_some pe_ok, fun G σ H w sd Q q => h G σ H w sd _ fun a v G1 H1 ha w1 s1 r1 => ?_⟩
    subst ha
    cases r1
    exact ⟨i, rfl, q G1 H1 w1 s1⟩
def cutL {α : Type} (xs : List α) (lo hi : Option Int) : List α := (xs.drop (HT.sIx xs.length 0 lo)).take (HT.sIx xs.length xs.length hi - HT.sIx xs.length 0 lo)
theorem ed_cutL {xs : List PyData} {lo hi : Option Expr} {l h : Option Int} {p2 : Pos} (ha : Ed X O e ds (.list xs)) (hl : (lo = none ∧ l = none) ∨ ∃ e i, lo = some e ∧ l = some i ∧ Ed X O e ds (.int i)) (hh : (hi = none ∧ h = none) ∨ ∃ e i, hi = some e ∧ h = some i ∧ Ed X O e ds (.int i)) :
    Ed X O (.Subscript e (.Slice lo hi none p2) pos) ds (.list (cutL xs l h)) := fun G σ H w sd Q q => by
  obtain ⟨t1, h1, q1⟩ := ev_part hl
  obtain ⟨t2, h2, q2⟩ := ev_part hh
  refine ⟨_, pe_slice sl_list pe_ok h1 h2, ha G σ H w sd _ fun a v G1 H1 ha w1 s1 r1 => q1 G1 σ H1 w1 (sd.on s1) _ fun G2 H2 w2 s2 => q2 G2 σ H2 w2 (sd.on (s1.trans s2)) _ fun G3 H3 w3 s3 => ?_⟩
  subst ha
  cases r1 with
  | lst hs hd =>
    refine ⟨_, _, rfl, w3.sub.seq ((s2.trans s3).gg.seq hs), fun p hp => ?_⟩
    obtain ⟨w4, s4⟩ := w3.new (o := .lst (cutV _ l h)) hp
    refine q _ _ _ _ rfl w4 (s1.trans (s2.trans (s3.trans s4))) (.lst (.inl (.inl upd_same)) ?_)
    have hd2 := dpa_same ((s2.trans (s3.trans s4)).gg) _ _ hd
    unfold cutL
    rw [← dpa_len hd]
    exact dpa_take _ (dpa_drop _ hd2)
theorem ed_cutS {z : Str} {lo hi : Option Expr} {l h : Option Int} {p2 : Pos} (ha : Ed X O e ds (.str z)) (hz : z.length ≤ 1000) (hl : (lo = none ∧ l = none) ∨ ∃ e i, lo = some e ∧ l = some i ∧ Ed X O e ds (.int i)) (hh : (hi = none ∧ h = none) ∨ ∃ e i, hi = some e ∧ h = some i ∧ Ed X O e ds (.int i)) :
    Ed X O (.Subscript e (.Slice lo hi none p2) pos) ds (.str (cutS z l h)) := fun G σ H w sd Q q => by
  obtain ⟨t1, h1, q1⟩ := ev_part hl
  obtain ⟨t2, h2, q2⟩ := ev_part hh
  refine ⟨_, pe_slice sl_str pe_ok h1 h2, ha G σ H w sd _ fun a v G1 H1 ha w1 s1 r1 => q1 G1 σ H1 w1 (sd.on s1) _ fun G2 H2 w2 s2 => q2 G2 σ H2 w2 (sd.on (s1.trans s2)) _ fun G3 H3 w3 s3 => ?_⟩
  subst ha
  cases r1
  exact ⟨z, rfl, sz15 hz, q _ _ _ _ rfl w3 (s1.trans (s2.trans s3)) (.str _)⟩
theorem ed_rev {xs : List PyData} {k : Nat} {p1 p2 p3 : Pos} (ha : Ed X O e ds (.list xs)) : Ed X O (.Subscript e (.Slice none none (some (.UnaryOp .USub (.Constant (.int 1) k p1) p2)) p3) pos) ds (.list xs.reverse) := fun G σ H w sd Q q =>
  ⟨_, pe_revL pe_ok, ha G σ H w sd _ fun a v G1 H1 ha w1 s1 r1 => by
    subst ha
    cases r1 with
    | lst hs hd =>
      refine ⟨_, _, rfl, w1.sub.seq hs, fun p hp => ?_⟩
      obtain ⟨w4, s4⟩ := w1.new (o := .lst _) hp
      exact q _ _ _ _ rfl w4 (s1.trans s4) (.lst (.inl (.inl upd_same)) (dpa_rev (dpa_same s4.gg _ _ hd)))⟩
/-! lists and tuples put together -/
theorem ed_catT {xs ys : List PyData} (ha : Ed X O a ds (.tuple xs)) (hb : Ed X O b ds (.tuple ys)) (hx : xs ≠ []) (hl : xs.length + ys.length ≤ 1000) : Ed X O (.BinOp a .Add b pos) ds (.tuple (xs ++ ys)) := ev_op op_catT ha hb (det2 fun G H u v w hu hv Q q => by
  cases hu with
  | tup h1 d1 =>
    cases hv with
    | tup h2 d2 =>
      have l1 := dpa_len d1
      have l2 := dpa_len d2
      refine ⟨_, _, _, _, rfl, rfl, same_t w.sub h1, same_t w.sub h2, fun z => ?_, by rw [l1, l2]; exact sz15 hl, fun z => ?_, fun _ p hp => ?_⟩
      · rw [z] at l1
        exact hx (List.eq_nil_of_length_eq_zero l1.symm)
      · rw [z] at l2
        have e : ys = [] := List.eq_nil_of_length_eq_zero l2.symm
        subst e
        rw [List.append_nil] at q
        exact q _ _ _ _ rfl w Stp.refl (.tup h1 d1)
      · obtain ⟨w4, s4⟩ := w.new (o := .tup _) hp
        exact q _ _ _ _ rfl w4 s4 (.tup (.inl (.inl upd_same)) (dpa_append (dpa_same s4.gg _ _ d1) (dpa_same s4.gg _ _ d2))))
end
end Ea

namespace Ea
open PySem PySem.Spec PyProof.Rows L2

/-! ### statements -/
def Rn (X : Cx) (O : OS) (ss : List Stmt) (ds : AS) (N : OS → AS → Prop) (R : OS → AV → Prop) : Prop := ∀ (D : Ends) G σ H, Wd X.K O G H → SD X.K G σ ds →
  (∀ O' ds' G' σ' H', N O' ds' → Wd X.K O' G' H' → Stp (adr O) G H G' H' → SD X.K G' σ' ds' → D.nx σ' H') →
  (∀ O' a v G' H', R O' a → Wd X.K O' G' H' → Stp (adr O) G H G' H' → AVok X.K G' v a → D.rt v H') → pss X ss D σ H
/-- a target takes a datum -/
def Tgt (X : Cx) (tg : Expr) (ds : AS) (d : PyData) (ds' : AS) : Prop := ∀ G σ H v, SD X.K G σ ds → Same G H → Dp X.K G v d → ∀ Q : L2.St → Hp → Prop, (∀ σ', SD X.K G σ' ds' → Q σ' H) → pg X tg v σ H Q
/-- what is walked: J, over the data xs -/
def Wk (K : PySem.W.Frag) (S : OS) (xs : List PyData) (J : It) (G : Hp) : Prop := ∀ O' G' H, Same G G' → Wd K O' G' H → (∀ p ∈ S, p ∈ O') →
  (∀ i, i < xs.length → J.go i H) ∧ J.stop xs.length H ∧ ∀ i x v H', xs[i]? = some x → J.yld i H v H' → H' = H ∧ Dp K G' v x
def Iw (X : Cx) (O S : OS) (tg it : Expr) (ds : AS) (xs : List PyData) : Prop := ∃ wi, PI X tg it wi ∧ ∀ G σ H, Wd X.K O G H → SD X.K G σ ds → ∀ R : It → Hp → Prop,
  (∀ J G1 H1, Wd X.K O G1 H1 → Stp (adr O) G H G1 H1 → Wk X.K S xs J G1 → R J H1) → wi σ H R
section
variable {X : Cx} {O : OS} {ds : AS} {e tg it a b c : Expr} {es : List Expr} {rest body orelse : List Stmt} {pos : Pos} {A : AV → Prop} {N : OS → AS → Prop} {R : OS → AV → Prop}
theorem Rn.imp {N' : OS → AS → Prop} {R' : OS → AV → Prop} (h : Rn X O body ds N R) (i : ∀ O d, N O d → N' O d) (j : ∀ O d, R O d → R' O d) : Rn X O body ds N' R' := fun D G σ H w sd hn hr =>
  h D G σ H w sd (fun O' ds' G' σ' H' q => hn O' ds' G' σ' H' (i _ _ q)) fun O' a v G' H' q => hr O' a v G' H' (j _ _ q)
theorem rn_nil (h : N O ds) : Rn X O [] ds N R := fun D G σ H w sd hn _ => ⟨_, pss_nil, hn O ds G σ H h w Stp.refl sd⟩
theorem rn_ret (he : Ev X O e ds A) (h : ∀ a, A a → R O a) : Rn X O (.Return (some e) pos :: rest) ds N R := fun D G σ H w sd _ hr =>
  ⟨_, pss_cons (ps_ret pe_ok) pss_never, he G σ H w sd _ fun a v G1 H1 ha w1 s1 r1 => hr O a v G1 H1 (h a ha) w1 s1 r1⟩
theorem rn_set {p' : Pos} (i : Nat) {x : Str} (he : Ev X O e ds A) (h : ∀ a, A a → Rn X O rest (ds.set i (some a)) N R) (hN : X.N.Nodup) (hi : X.N[i]? = some x := by rfl)
    (hx : Loc X.env.scope x := by first | exact Or.inl rfl | exact Or.inr rfl) (hs : swapsWith e (some (.Name x p')) pos.line X.env = pure false := by rfl)
    (hf : X.fn x = true ∨ X.env.scope.names.lookup x = some .local := by first | exact .inl rfl | exact .inr rfl) : Rn X O (.Assign [.Name x p'] e pos :: rest) ds N R := fun D G σ H w sd hn hr =>
  ⟨_, pss_cons (ps_set (i := i) hN hi hx pe_ok hs hf) pss_ok, he G σ H w sd _ fun a v G1 H1 ha w1 s1 r1 =>
    h a ha D G1 _ H1 w1 ((sd.on s1).set r1 i) (fun O' ds' G' σ' H' q w2 s2 => hn O' ds' G' σ' H' q w2 (s1.trans s2)) fun O' a v G' H' q w2 s2 => hr O' a v G' H' q w2 (s1.trans s2)⟩
theorem rn_setd {p' : Pos} (i : Nat) {x : Str} {d : AV} (he : Ev X O e ds (· = d)) (h : Rn X O rest (ds.set i (some d)) N R) (hN : X.N.Nodup) (hi : X.N[i]? = some x := by rfl)
    (hx : Loc X.env.scope x := by first | exact Or.inl rfl | exact Or.inr rfl) (hs : swapsWith e (some (.Name x p')) pos.line X.env = pure false := by rfl)
    (hf : X.fn x = true ∨ X.env.scope.names.lookup x = some .local := by first | exact .inl rfl | exact .inr rfl) : Rn X O (.Assign [.Name x p'] e pos :: rest) ds N R :=
  rn_set i he (fun _ q => by rw [q]; exact h) hN hi hx hs hf
/-- target = value, any target of data -/
theorem rn_asg {d : PyData} {ds' : AS} (he : Ed X O e ds d) (ht : Tgt X tg ds d ds') (h : Rn X O rest ds' N R) (hs : swapsWithSole [tg] e pos.line X.env = pure false := by rfl) (hw : swappedStores [tg] e X.env = pure none := by rfl)
    (h1 : (assignEach [tg] X.env).map (·.2) = [assign tg X.env] := by rfl) : Rn X O (.Assign [tg] e pos :: rest) ds N R := fun D G σ H w sd hn hr =>
  ⟨_, pss_cons (ps_asg pe_ok pg_ok hs hw h1) pss_ok, he G σ H w sd _ fun a v G1 H1 ha w1 s1 r1 => by
    subst ha
    exact ht G1 σ H1 v (sd.on s1) w1.sub r1 _ fun σ' sd' => h D G1 σ' H1 w1 sd' (fun O' ds' G' σ' H' q w2 s2 => hn O' ds' G' σ' H' q w2 (s1.trans s2)) fun O' a v G' H' q w2 s2 => hr O' a v G' H' q w2 (s1.trans s2)⟩
theorem tg_name (i : Nat) {x : Str} {d : PyData} {p' : Pos} (hN : X.N.Nodup) (hi : X.N[i]? = some x := by rfl) (hx : Loc X.env.scope x := by first | exact Or.inl rfl | exact Or.inr rfl)
    (hf : X.fn x = true ∨ X.env.scope.names.lookup x = some .local := by first | exact .inl rfl | exact .inr rfl) : Tgt X (.Name x p') ds d (ds.set i (some (.d d))) := fun G σ H v sd _ r Q q =>
  ⟨_, pg_name (i := i) hN hi hx hf, q _ (sd.set (a := .d d) r i)⟩
theorem tg_pair {t1 t2 : Expr} {k : Nat} {d1 d2 : PyData} {ds1 ds2 : AS} (hc : X.calm = true) (h1 : Tgt X t1 ds d1 ds1) (h2 : Tgt X t2 ds1 d2 ds2)
    (hn : (assignEach [t1, t2] X.env).length = 2 := by rfl) (hst : (assignEach [t1, t2] X.env).findIdx? (·.1) = none := by rfl) (hs1 : (assignEach (t1 :: [t2]) X.env).map (·.2) = assign t1 X.env :: (assignEach [t2] X.env).map (·.2) := by rfl)
    (hs2 : (assignEach (t2 :: []) X.env).map (·.2) = assign t2 X.env :: (assignEach [] X.env).map (·.2) := by rfl) : Tgt X (.Tuple [t1, t2] k pos) ds (.tuple [d1, d2]) ds2 := fun G σ H v sd gs r Q q => by
  refine ⟨_, pg_tup (n := 2) hc (pgs_cons pg_ok (pgs_cons pg_ok pgs_nil hs2) hs1) hn hst, ?_⟩
  cases r with
  | tup hs hd =>
    cases hd with
    | cons r1 hd2 =>
      cases hd2 with
      | cons r2 hd3 =>
        cases hd3
        refine ⟨_, _, rfl, same_t gs hs, rfl, _, _, rfl, h1 G σ H _ sd gs r1 _ fun σ1 sd1 => ⟨_, _, rfl, h2 G σ1 H _ sd1 gs r2 _ fun σ2 sd2 => ⟨rfl, q σ2 sd2⟩⟩⟩
/-- a, b = x, y -/
theorem rn_par {x y : Str} {px py pt : Pos} {kt k2 pt2} {p q : PyData} (i j : Nat) (ha : EvA X O [a, b] ds (· = [.d p, .d q])) (h : Rn X O rest ((ds.set i (some (.d p))).set j (some (.d q))) N R) (hc : X.calm = true) (hN : X.N.Nodup) (hi : X.N[i]? = some x := by rfl) (hj : X.N[j]? = some y := by rfl) (hij : i ≠ j := by decide)
    (hx : X.env.scope.names.lookup x = some .local := by rfl) (hy : X.env.scope.names.lookup y = some .local := by rfl)
    (hw : swappedStores [.Tuple [.Name x px, .Name y py] kt pt] (.Tuple [a, b] k2 pt2) X.env = pure (some [x, y]) := by rfl)
    (hs : swapsWithSole [.Tuple [.Name x px, .Name y py] kt pt] (.Tuple [a, b] k2 pt2) pos.line X.env = pure false := by rfl) :
    Rn X O (.Assign [.Tuple [.Name x px, .Name y py] kt pt] (.Tuple [a, b] k2 pt2) pos :: rest) ds N R := fun D G σ H w sd hn hr =>
  ⟨_, pss_cons (L2.ps_par hc hN hi hj hij hx hy pa_ok hw hs) pss_ok, ha G σ H w sd _ fun as vs G1 H1 hB w1 s1 r1 => by
    subst hB
    obtain ⟨v, u, rfl, r1, r2⟩ := avs2 r1
    exact ⟨v, u, rfl, h D G1 _ H1 w1 (((sd.on s1).set r1 i).set r2 j) (fun O' ds' G' σ' H' q w2 s2 => hn O' ds' G' σ' H' q w2 (s1.trans s2)) fun O' a v G' H' q w2 s2 => hr O' a v G' H' q w2 (s1.trans s2)⟩⟩
theorem rn_if {k : Bool} (hc : EvT X O c ds k) (h1 : k = true → Rn X O body ds (fun O' ds' => (∀ p ∈ adr O', p ∈ adr O) ∧ Rn X O' rest ds' N R) R) (h2 : k = false → Rn X O orelse ds (fun O' ds' => (∀ p ∈ adr O', p ∈ adr O) ∧ Rn X O' rest ds' N R) R) : Rn X O (.If c body orelse pos :: rest) ds N R := fun D G σ H w sd hn hr => by
  refine ⟨_, pss_cons (ps_if pt_ok pss_ok pss_ok) pss_ok, hc G σ H w sd _ fun G1 H1 w1 s1 => ?_⟩
  have hr' : ∀ O' a v G' H', R O' a → Wd X.K O' G' H' → Stp (adr O) G1 H1 G' H' → AVok X.K G' v a → D.rt v H' := fun O' a v G' H' q w2 s2 => hr O' a v G' H' q w2 (s1.trans s2)
  have hn' : ∀ O' ds' G' σ' H', ((∀ p ∈ adr O', p ∈ adr O) ∧ Rn X O' rest ds' N R) → Wd X.K O' G' H' → Stp (adr O) G1 H1 G' H' → SD X.K G' σ' ds' → pss X rest D σ' H' := fun O' ds' G' σ' H' q w2 s2 sd2 =>
    q.2 D G' σ' H' w2 sd2 (fun O3 ds3 G3 σ3 H3 q3 w3 s3 => hn O3 ds3 G3 σ3 H3 q3 w3 ((s1.trans s2).trans (s3.mono q.1))) fun O3 a3 v3 G3 H3 q3 w3 s3 => hr O3 a3 v3 G3 H3 q3 w3 ((s1.trans s2).trans (s3.mono q.1))
  cases k with
  | true => exact iteT (h1 rfl { D with nx := pss X rest D } G1 σ H1 w1 (sd.on s1) hn' hr')
  | false => exact iteF (h2 rfl { D with nx := pss X rest D } G1 σ H1 w1 (sd.on s1) hn' hr')
/-- the branch ends the def -/
theorem rn_ifR {k : Bool} (hc : EvT X O c ds k) (h1 : k = true → Rn X O body ds (fun _ _ => False) R) (h2 : k = false → Rn X O rest ds N R) : Rn X O (.If c body [] pos :: rest) ds N R :=
  rn_if hc (fun e => (h1 e).imp (fun _ _ z => z.elim) fun _ _ z => z) fun e => rn_nil ⟨fun _ h => h, h2 e⟩
theorem rn_ifE (hc : EvT X O c ds false) (h2 : Rn X O orelse ds (fun O' ds' => (∀ p ∈ adr O', p ∈ adr O) ∧ Rn X O' rest ds' N R) R) : Rn X O (.If c body orelse pos :: rest) ds N R := rn_if hc (fun z => nomatch z) fun _ => h2
theorem rn_ifRT (hc : EvT X O c ds true) (h1 : Rn X O body ds (fun _ _ => False) R) : Rn X O (.If c body [] pos :: rest) ds N R := rn_ifR hc (fun _ => h1) fun z => nomatch z
theorem rn_ifF (hc : EvT X O c ds false) (h2 : Rn X O rest ds N R) : Rn X O (.If c body [] pos :: rest) ds N R := rn_ifR hc (fun z => nomatch z) fun _ => h2
theorem rn_ifT (hc : EvT X O c ds true) (h2 : Rn X O body ds (fun O' ds' => (∀ p ∈ adr O', p ∈ adr O) ∧ Rn X O' rest ds' N R) R) : Rn X O (.If c body orelse pos :: rest) ds N R := rn_if hc (fun _ => h2) fun z => nomatch z
/-- one branch runs through to a store -/
theorem rn_thru {ds' : AS} (h : Rn X O body ds (fun O' d => O' = O ∧ d = ds') R) (h2 : Rn X O rest ds' N R) : Rn X O body ds (fun O' ds' => (∀ p ∈ adr O', p ∈ adr O) ∧ Rn X O' rest ds' N R) R :=
  h.imp (fun O' d q => by obtain ⟨rfl, rfl⟩ := q; exact ⟨fun _ h => h, h2⟩) fun _ _ z => z
theorem rn_expr (he : Ev X O e ds A) (h : Rn X O rest ds N R) (hs : swapsWith e none pos.line X.env = pure false := by rfl) : Rn X O (.Expr e pos :: rest) ds N R := fun D G σ H w sd hn hr =>
  ⟨_, pss_cons (ps_expr pe_ok hs) pss_ok, he G σ H w sd _ fun a v G1 H1 ha w1 s1 r1 =>
    h D G1 _ H1 w1 (sd.on s1) (fun O' ds' G' σ' H' q w2 s2 => hn O' ds' G' σ' H' q w2 (s1.trans s2)) fun O' a v G' H' q w2 s2 => hr O' a v G' H' q w2 (s1.trans s2)⟩
/-! while -/
theorem rn_while (Inv : AS → Prop) (μ : AS → Nat) (hp : PassesOwn (model X.prog X.w) X.A X.env X.xe) (h0 : Inv ds)
    (hs : ∀ ds', Inv ds' → ∃ k, EvT X O c ds' k ∧ (k = true → Rn X O body ds' (fun O' d => O' = O ∧ Inv d ∧ μ d < μ ds') R) ∧ (k = false → Rn X O rest ds' N R)) : Rn X O (.While c body [] pos :: rest) ds N R := fun D G σ H w sd hn hr => by
  refine ⟨_, pss_cons (ps_while hp pt_ok pss_ok) pss_ok, fun m σ' H' => ∃ G' ds', m = μ ds' ∧ Inv ds' ∧ Wd X.K O G' H' ∧ Stp (adr O) G H G' H' ∧ SD X.K G' σ' ds', ⟨_, G, ds, rfl, h0, w, Stp.refl, sd⟩, ?_⟩
  rintro m σ1 H1 ⟨G1, ds1, rfl, i1, w1, s1, sd1⟩
  obtain ⟨k, ht, hT, hF⟩ := hs ds1 i1
  refine ht G1 σ1 H1 w1 sd1 _ fun G2 H2 w2 s2 => ?_
  cases k with
  | false => exact iteF (hF rfl D G2 σ1 H2 w2 (sd1.on s2) (fun O' ds' G' σ' H' q w3 s3 => hn O' ds' G' σ' H' q w3 ((s1.trans s2).trans s3)) fun O' a v G' H' q w3 s3 => hr O' a v G' H' q w3 ((s1.trans s2).trans s3))
  | true =>
    refine iteT ⟨fun σ' H' => ∃ G' ds', μ ds' < μ ds1 ∧ Inv ds' ∧ Wd X.K O G' H' ∧ Stp (adr O) G H G' H' ∧ SD X.K G' σ' ds', fun σ' H' ⟨G', ds', hm, z⟩ => ⟨_, hm, G', ds', rfl, z⟩, ?_⟩
    refine hT rfl _ G2 σ1 H2 w2 (sd1.on s2) (fun O' ds' G' σ' H' q w3 s3 sd3 => ?_) fun O' a v G' H' q w3 s3 => hr O' a v G' H' q w3 ((s1.trans s2).trans s3)
    obtain ⟨rfl, q1, q2⟩ := q
    exact ⟨G', ds', q2, q1, w3, (s1.trans s2).trans s3, sd3⟩
/-! what is walked -/
theorem iw_list {xs : List PyData} (h : Ed X O it ds (.list xs)) : Iw X O [] tg it ds xs := ⟨_, pi_list pe_ok, fun G σ H w sd R q => h G σ H w sd _ fun a v G1 H1 ha w1 s1 r1 => by
  subst ha
  cases r1 with
  | @lst b vs _ hs hd =>
    refine ⟨b, rfl, ⟨vs, w1.sub.seq hs⟩, q _ G1 H1 w1 s1 fun O' G' H' gg w' _ => ?_⟩
    have hs' : SqL X.K H' b vs := w'.sub.seq (gg.seq hs)
    have hl := dpa_len hd
    refine ⟨fun i hi => ⟨vs, vs[i]'(by rw [hl]; exact hi), hs', List.getElem?_eq_getElem _⟩, ⟨vs, hs', by rw [hl]; exact Nat.le_refl _⟩, fun i x u H2 hx hy => ?_⟩
    obtain ⟨e1, e2⟩ := hy
    obtain ⟨u', e3, r3⟩ := dpa_at (dpa_same gg _ _ hd) hx
    have e4 := e2 vs hs'
    rw [e3] at e4
    cases e4
    exact ⟨e1, r3⟩⟩
theorem iw_tup {xs : List PyData} (h : Ed X O it ds (.tuple xs)) : Iw X O [] tg it ds xs := ⟨_, pi_tup pe_ok, fun G σ H w sd R q => h G σ H w sd _ fun a v G1 H1 ha w1 s1 r1 => by
  subst ha
  cases r1 with
  | @tup b vs _ hs hd =>
    refine ⟨b, rfl, ⟨vs, same_t w1.sub hs⟩, q _ G1 H1 w1 s1 fun O' G' H' gg w' _ => ?_⟩
    have hs' : SqT X.K H' b vs := same_t w'.sub (same_t gg hs)
    have hl := dpa_len hd
    refine ⟨fun i hi => ⟨vs, vs[i]'(by rw [hl]; exact hi), hs', List.getElem?_eq_getElem _⟩, ⟨vs, hs', by rw [hl]; exact Nat.le_refl _⟩, fun i x u H2 hx hy => ?_⟩
    obtain ⟨e1, e2⟩ := hy
    obtain ⟨u', e3, r3⟩ := dpa_at (dpa_same gg _ _ hd) hx
    have e4 := e2 vs hs'
    rw [e3] at e4
    cases e4
    exact ⟨e1, r3⟩⟩
def upto (n : Nat) : List PyData := (List.range n).map fun i => PyData.int (i : Nat)
/-- range(n), n told by a value -/
theorem iw_range {p : Pos} {n : Nat} (hm : X.mg "range" = none) (h : Ed X O a ds (.int (n : Nat))) (hn : n < 2 ^ 62) (hg : Gl X "range" := by rfl)
    (hs1 : starEach [a] X.env = [(false, eval a X.env)] := by rfl) (hs2 : starEach (a :: []) X.env = (false, eval a X.env) :: starEach [] X.env := by rfl) : Iw X O [] tg (.Call (.Name "range" p) [a] [] pos) ds (upto n) :=
  ⟨_, pi_range1 hg hm pa_ok hs1, fun G σ H w sd R q => ea_cons h ea_nil hs2 G σ H w sd _ fun as vs G1 H1 ha w1 s1 r1 => by
    subst ha
    obtain ⟨v, rfl, r2⟩ := avs1 r1
    cases r2
    refine ⟨_, rfl, by omega, by omega, q _ G1 H1 w1 s1 fun O' G' H' gg w' _ => ?_⟩
    have hl : (upto n).length = n := by unfold upto; rw [List.length_map, List.length_range]
    rw [hl, Int.toNat_natCast]
    refine ⟨fun i hi => hi, Nat.le_refl _, fun i x u H2 hx hy => ?_⟩
    obtain ⟨e1, e2⟩ := hy
    refine ⟨e1, ?_⟩
    unfold upto at hx
    rw [List.getElem?_map] at hx
    have hi : i < n := by
      rcases Nat.lt_or_ge i n with h | h
      · exact h
      · rw [List.getElem?_eq_none (by rw [List.length_range]; exact h)] at hx; cases hx
    rw [List.getElem?_range hi] at hx
    cases hx
    rw [e2, Int.zero_add]
    exact .int _⟩
/-! for -/
theorem rn_for {xs : List PyData} (Inv : Nat → OS → AS → Prop) (hp : PassesOwn (model X.prog X.w) X.A X.env X.xe) (hc : X.calm = true) (hi : Iw X O [] tg it ds xs) (h0 : Inv 0 O ds)
    (hs : ∀ i x O' ds', xs[i]? = some x → adr O' = adr O → Inv i O' ds' → ∃ ds2, Tgt X tg ds' x ds2 ∧ Rn X O' body ds2 (fun O2 ds3 => adr O2 = adr O ∧ Inv (i + 1) O2 ds3) R)
    (hd : ∀ O' ds', adr O' = adr O → Inv xs.length O' ds' → Rn X O' rest ds' N R) (hfold : ∀ x, foldedSetIterable it X.env x = pure x := by intro _; rfl) : Rn X O (.For tg it body [] pos :: rest) ds N R := fun D G σ H w sd hn hr => by
  obtain ⟨wi, hpi, hw⟩ := hi
  refine ⟨_, pss_cons (ps_for hp hc hpi pg_ok pss_ok hfold) pss_ok, hw G σ H w sd _ fun J G1 H1 w1 s1 wk => ?_⟩
  refine ⟨fun i m σ' H' => m = xs.length - i ∧ i ≤ xs.length ∧ ∃ O' ds' G', adr O' = adr O ∧ Inv i O' ds' ∧ Wd X.K O' G' H' ∧ Stp (adr O) G1 H1 G' H' ∧ SD X.K G' σ' ds', ⟨_, rfl, Nat.zero_le _, O, ds, G1, rfl, h0, w1, Stp.refl, sd.on s1⟩, ?_⟩
  rintro i m σ2 H2 ⟨rfl, hil, O2, ds2, G2, ho, inv, w2, s2, sd2⟩
  obtain ⟨k1, k2, k3⟩ := wk O2 G2 H2 s2.gg w2 fun _ h => (nomatch h)
  by_cases hlt : i < xs.length
  · refine .inr ⟨k1 i hlt, fun σ' H' => ∃ O' ds' G', adr O' = adr O ∧ Inv (i + 1) O' ds' ∧ Wd X.K O' G' H' ∧ Stp (adr O) G1 H1 G' H' ∧ SD X.K G' σ' ds', fun σ' H' q => ⟨_, by omega, rfl, hlt, q⟩, fun v H' hy => ?_⟩
    obtain ⟨e1, r1⟩ := k3 i xs[i] v H' (List.getElem?_eq_getElem hlt) hy
    subst e1
    obtain ⟨ds3, ht, hb⟩ := hs i xs[i] O2 ds2 (List.getElem?_eq_getElem hlt) ho inv
    refine ht G2 σ2 H' v sd2 w2.sub r1 _ fun σ3 sd3 => hb _ G2 σ3 H' w2 sd3 (fun O' ds' G' σ' H4 q w4 s4 sd4 => ⟨O', ds', G', q.1, q.2, w4, s2.trans (by rw [ho] at s4; exact s4), sd4⟩) fun O' a v G' H4 q w4 s4 r4 => ?_
    rw [ho] at s4
    exact hr O' a v G' H4 q w4 ((s1.trans s2).trans s4) r4
  · have e : i = xs.length := by omega
    subst e
    refine .inl ⟨k2, hd O2 ds2 ho inv D G2 σ2 H2 w2 sd2 (fun O' ds' G' σ' H' q w4 s4 => ?_) fun O' a v G' H' q w4 s4 => ?_⟩
    · rw [ho] at s4
      exact hn O' ds' G' σ' H' q w4 ((s1.trans s2).trans s4)
    · rw [ho] at s4
      exact hr O' a v G' H' q w4 ((s1.trans s2).trans s4)
/-- .. where the owned objects stay as they are -/
theorem rn_for0 {xs : List PyData} (Inv : Nat → AS → Prop) (hp : PassesOwn (model X.prog X.w) X.A X.env X.xe) (hc : X.calm = true) (hi : Iw X O [] tg it ds xs) (h0 : Inv 0 ds)
    (hs : ∀ i x ds', xs[i]? = some x → Inv i ds' → ∃ ds2, Tgt X tg ds' x ds2 ∧ Rn X O body ds2 (fun O2 ds3 => O2 = O ∧ Inv (i + 1) ds3) R)
    (hd : ∀ ds', Inv xs.length ds' → Rn X O rest ds' N R) (hfold : ∀ x, foldedSetIterable it X.env x = pure x := by intro _; rfl) : Rn X O (.For tg it body [] pos :: rest) ds N R :=
  rn_for (fun i O' ds' => O' = O ∧ Inv i ds') hp hc hi ⟨rfl, h0⟩ (fun i x O' ds' hx _ inv => by
    obtain ⟨rfl, inv⟩ := inv
    obtain ⟨ds2, h1, h2⟩ := hs i x ds' hx inv
    exact ⟨ds2, h1, h2.imp (fun O2 ds3 q => by obtain ⟨rfl, q⟩ := q; exact ⟨rfl, rfl, q⟩) fun _ _ z => z⟩) (fun O' ds' _ inv => by obtain ⟨rfl, inv⟩ := inv; exact hd ds' inv) hfold
end
end Ea

namespace Ea
open PySem PySem.Spec PyProof.Rows L2

/-! ### comprehensions -/
/-- an expression within a comprehension's block, in any such block -/
def Eb (X : Cx) (scope : Scope) (O : OS) (e : Expr) (ds : AS) (A : AV → Prop) : Prop := ∀ (s : Shared) (H : Hp) (C : Addr) (cl : List (Str × Addr)) (fp : List Addr), Ev (X.blk s H scope (compEnvC scope cl C X.env) fp) O e ds A
/-- a comprehension's target: the store behind it -/
structure Tb (X : Cx) (scope : Scope) (tg : Expr) (vs : List Nat) (f : PyData → AS → AS) (P : PyData → Prop) : Prop where
  ex : ∃ g : TG, (∀ (s : Shared) (H : Hp) (C : Addr) (cl : List (Str × Addr)) (fp : List Addr), PG (X.blk s H scope (compEnvC scope cl C X.env) fp) tg g) ∧
    ∀ G σ H v ds x, SD X.K G σ ds → Same G H → Dp X.K G v x → P x → ∀ Q : L2.St → Hp → Prop, (∀ σ', SD X.K G σ' (f x ds) → L2.wipe σ' vs = L2.wipe σ vs → Q σ' H) → g v σ H Q
theorem wipe1 (σ : L2.St) (i : Nat) (o : Option V) : L2.wipe (σ.set i o) [i] = L2.wipe σ [i] := by
  show (σ.set i o).set i none = σ.set i none
  rw [List.set_set]
theorem wipe2 (σ : L2.St) (i j : Nat) (o u : Option V) : L2.wipe ((σ.set i o).set j u) [i, j] = L2.wipe σ [i, j] := by
  show (((σ.set i o).set j u).set j none).set i none = (σ.set j none).set i none
  rw [List.set_set]
  by_cases h : i = j
  · subst h
    simp only [List.set_set]
  · rw [List.set_comm o none h, List.set_set]
section
variable {X : Cx} {O : OS} {ds : AS} {e tg it a b c : Expr} {es : List Expr} {rest body orelse : List Stmt} {pos : Pos} {A : AV → Prop} {N : OS → AS → Prop} {R : OS → AV → Prop}
theorem tb_name {scope : Scope} (i : Nat) {x : Str} {p : Pos} (hN : X.N.Nodup) (h : ∀ (s : Shared) (H : Hp) (C : Addr) (cl : List (Str × Addr)) (fp : List Addr), PG (X.blk s H scope (compEnvC scope cl C X.env) fp) (.Name x p) (gName i)) :
    Tb X scope (.Name x p) [i] (fun d ds => ds.set i (some (.d d))) (fun _ => True) := ⟨gName i, h, fun G σ H v ds x sd _ r _ Q q => q _ (sd.set (a := .d x) r i) (wipe1 σ i _)⟩
theorem tb_pair {scope : Scope} (i j : Nat) {t1 t2 : Expr} {k : Nat} {p : Pos} (h : ∀ (s : Shared) (H : Hp) (C : Addr) (cl : List (Str × Addr)) (fp : List Addr), PG (X.blk s H scope (compEnvC scope cl C X.env) fp) (.Tuple [t1, t2] k p) (gTup X.K 2 (gCons (gName i) (gCons (gName j) gNil)))) :
    Tb X scope (.Tuple [t1, t2] k p) [i, j] (fun d ds => match d with
      | .tuple [d1, d2] => (ds.set i (some (.d d1))).set j (some (.d d2))
      | _ => ds) (fun x => ∃ d1 d2, x = .tuple [d1, d2]) := ⟨_, h, fun G σ H v ds x sd gs r hx Q q => by
  obtain ⟨d1, d2, rfl⟩ := hx
  cases r with
  | tup hs hd =>
    cases hd with
    | cons r1 hd2 =>
      cases hd2 with
      | cons r2 hd3 =>
        cases hd3
        refine ⟨_, _, rfl, same_t gs hs, rfl, _, _, rfl, _, _, rfl, rfl, q _ ?_ (wipe2 σ i j _ _)⟩
        exact (sd.set (a := .d d1) r1 i).set (a := .d d2) r2 j⟩
theorem wipe_wipe (σ : L2.St) (vs : List Nat) : L2.wipe (L2.wipe σ vs) vs = L2.wipe σ vs := by
  have ix : ∀ (vs : List Nat) (σ : L2.St) (k : Nat), (L2.wipe σ vs)[k]? = if k ∈ vs ∧ k < σ.length then some none else σ[k]? := by
    intro vs
    induction vs with
    | nil => intro σ k; simp [L2.wipe]
    | cons v vs ih =>
      intro σ k
      show ((L2.wipe σ vs).set v none)[k]? = _
      rw [List.getElem?_set, L2.wipe_length, ih]
      by_cases h : v = k
      · subst h
        by_cases hl : v < σ.length
        · simp [hl]
        · simp [hl]
      · simp [h, Ne.symm h, List.mem_cons]
  apply List.ext_getElem?
  intro k
  rw [ix, ix, L2.wipe_length]
  split <;> rfl
theorem tYes_go {σ : L2.St} {H : Hp} {A B : Bool → Hp → Prop} (h : A true H) : tYes σ H (fun b H3 => if b = true then A b H3 else B b H3) := by
  show (if true = true then A true H else B true H)
  rw [if_pos rfl]
  exact h
/-- the core: a comprehension's reading -/
theorem lc_run {scope : Scope} {own : List (Str × Nat)} {xs ys : List PyData} {S : OS} {f : PyData → AS → AS} {P : PyData → Prop} (hi : Iw X O S tg it ds xs) (hS : ∀ p ∈ S, p ∈ O)
    (ht : Tb X scope tg (own.map (·.2)) f P) (hP : ∀ x ∈ xs, P x) (hl : ys.length = xs.length) (hz : xs.length ≤ 1000) (hs : ∀ (i : Nat) (x y : PyData), xs[i]? = some x → ys[i]? = some y → Eb X scope O e (f x (wipeD ds (own.map (·.2)))) (· = .d y)) :
    ∃ wi g te, PI X tg it wi ∧ (∀ (s : Shared) (H : Hp) (C : Addr) (cl : List (Str × Addr)) (fp : List Addr), PG (X.blk s H scope (compEnvC scope cl C X.env) fp) tg g) ∧
      (∀ (s : Shared) (H : Hp) (C : Addr) (cl : List (Str × Addr)) (fp : List Addr), PE (X.blk s H scope (compEnvC scope cl C X.env) fp) e te) ∧
      ∀ G σ H, Wd X.K O G H → SD X.K G σ ds → ∀ Q : VK, (∀ v G' H', Wd X.K O G' H' → Stp (adr O) G H G' H' → AVok X.K G' v (.tl ys) → Q v H') → tLc wi g tYes te (own.map (·.2)) σ H Q := by
  obtain ⟨wi, hpi, hw⟩ := hi
  obtain ⟨g, hg, hgo⟩ := ht
  refine ⟨wi, g, fun σ H Q => ∀ s H' C cl fp, pe (X.blk s H' scope (compEnvC scope cl C X.env) fp) e σ H Q, hpi, hg, fun s H C cl fp => ⟨fun pins s' σ H' Q I h => pe_ok.run pins s' σ H' Q I (h s H C cl fp)⟩, fun G σ H w sd Q q => ?_⟩
  refine hw G σ H w sd _ fun J G1 H1 w1 s1 wk => fun D hD => ?_
  have gD : G1 D = none := w1.sub.free hD
  have oD : D ∉ adr O := fun hm => by
    obtain ⟨p, hp, ep⟩ := List.mem_map.mp hm
    exact ov_some (w1.own p hp) (by rw [ep]; exact hD)
  -- the turn: what is known grows beside the new list
  refine ⟨fun i m H' => m = xs.length - i ∧ i ≤ xs.length ∧ ∃ G' vs, Wd X.K O G' H' ∧ Stp (D :: adr O) G1 (upd H1 D (.lst [])) G' H' ∧ G' D = none ∧ H' D = some (.lst vs) ∧ DpAll X.K G' vs (ys.take i), ⟨_, rfl, Nat.zero_le _, G1, [], ?_, Stp.refl, gD, upd_same, by rw [List.take_zero]; exact .nil⟩, ?_⟩
  · have hsm : Same H1 (upd H1 D (.lst [])) := fun b x e => by rw [upd_ne (ne_of_none e hD)]; exact e
    exact ⟨w1.sub.trans hsm, fun p hp => ov_keep (Same.refl G1) (hsm _) (w1.own p hp), w1.off, w1.nd⟩
  rintro i m H2 ⟨rfl, hil, G2, vs, w2, s2, g2, h2, r2⟩
  obtain ⟨k1, k2, k3⟩ := wk O G2 H2 s2.gg w2 hS
  by_cases hlt : i < xs.length
  · refine .inr ⟨k1 i hlt, fun H' => ∃ G' vs, Wd X.K O G' H' ∧ Stp (D :: adr O) G1 (upd H1 D (.lst [])) G' H' ∧ G' D = none ∧ H' D = some (.lst vs) ∧ DpAll X.K G' vs (ys.take (i + 1)), fun H' z => ⟨_, by omega, rfl, hlt, z⟩, fun v H' hy => ?_⟩
    obtain ⟨e1, r1⟩ := k3 i xs[i] v H' (List.getElem?_eq_getElem hlt) hy
    subst e1
    have hiy : i < ys.length := by omega
    refine hgo G2 _ H' v _ xs[i] ((sd.same (s1.gg.trans s2.gg)).wipe _) w2.sub r1 (hP _ (List.getElem_mem hlt)) _ fun σ3 sd3 ew => ⟨?_, ?_⟩
    · rw [ew]
      exact wipe_wipe σ _
    · refine tYes_go ?_
      intro s0 H0 C cl fp
      refine hs i xs[i] ys[i] (List.getElem?_eq_getElem hlt) (List.getElem?_eq_getElem hiy) s0 H0 C cl fp G2 σ3 H' w2 sd3 _ fun a u G4 H4 ha w4 s4 r4 => ?_
      subst ha
      have h4 : H4 D = some (.lst vs) := s4.hh _ _ h2 oD
      have g4 : G4 D = none := by
        by_cases z : G4 D = none
        · exact z
        · rcases s4.fr D z g2 with y | y
          · rw [h2] at y; cases y
          · exact absurd y oD
      have hlen : vs.length = i := by rw [dpa_len r2, List.length_take]; omega
      refine ⟨vs, h4, Nat.lt_of_le_of_lt (show vs.length ≤ 1000 by omega) (by decide), G4, vs ++ [u], ?_, ?_, g4, upd_same, ?_⟩
      · refine ⟨fun b o eb => ?_, fun p hp => ?_, w4.off, w4.nd⟩
        · have hb : b ≠ D := fun z => by rw [z, g4] at eb; cases eb
          rw [upd_ne hb]; exact w4.sub b o eb
        · have hp' : p.1 ≠ D := fun z => oD (List.mem_map.mpr ⟨p, hp, z⟩)
          exact ov_keep (Same.refl G4) (fun o eo => by rw [upd_ne hp']; exact eo) (w4.own p hp)
      · have s5 := s2.trans (s4.mono (M' := D :: adr O) fun c hc => List.mem_cons_of_mem _ hc)
        refine ⟨s5.gg, fun b o eb n => ?_, s5.fr, fun b eb => ?_⟩
        · have hb : b ≠ D := fun z => n (by rw [z]; exact List.mem_cons_self)
          rw [upd_ne hb]; exact s5.hh b o eb n
        · by_cases hb : b = D
          · rw [hb, upd_same]; exact fun z => nomatch z
          · rw [upd_ne hb]; exact s5.dm b eb
      · rw [List.take_add_one, List.getElem?_eq_getElem hiy]
        exact dpa_snoc (dpa_same s4.gg _ _ r2) r4
  · have e : i = xs.length := by omega
    subst e
    have et : ys.take xs.length = ys := List.take_of_length_le (by omega)
    rw [et] at r2
    have hsm : Same G2 (upd G2 D (.lst vs)) := fun b x e => by rw [upd_ne (ne_of_none e g2)]; exact e
    refine .inl ⟨k2, q (.ref D) (upd G2 D (.lst vs)) H2 ⟨fun b o eb => ?_, fun p hp => ov_keep hsm (fun _ z => z) (w2.own p hp), fun p hp => ?_, w2.nd⟩ ?_ ⟨D, vs, rfl, upd_same, dpa_same hsm _ _ r2⟩⟩
    · by_cases hb : b = D
      · rw [hb, upd_same] at eb; rw [hb, h2]; exact eb
      · rw [upd_ne hb] at eb; exact w2.sub b o eb
    · have hp' : p.1 ≠ D := fun z => oD (List.mem_map.mpr ⟨p, hp, z⟩)
      rw [upd_ne hp']; exact w2.off p hp
    · refine s1.trans' (M' := D :: adr O) ⟨s2.gg.trans hsm, fun b o eb n => ?_, fun b e1 e2 => ?_, fun b eb => ?_⟩ fun c hc => ?_
      · have hb : b ≠ D := fun z => n (by rw [z]; exact List.mem_cons_self)
        exact s2.hh b o (by rw [upd_ne hb]; exact eb) n
      · by_cases hb : b = D
        · exact .inr (by rw [hb]; exact List.mem_cons_self)
        · rw [upd_ne hb] at e1
          rcases s2.fr b e1 e2 with z | z
          · rw [upd_ne hb] at z; exact .inl z
          · exact .inr z
      · refine s2.dm b ?_
        by_cases hb : b = D
        · rw [hb, upd_same]; exact fun z => nomatch z
        · rw [upd_ne hb]; exact eb
      · rcases List.mem_cons.mp hc with z | z
        · refine .inr ?_
          rw [z]
          by_cases y : H D = none
          · exact y
          · exact absurd hD (s1.dm D y)
        · exact .inl z
theorem av_tl {K : PySem.W.Frag} {G : Hp} {v : V} {xs : List PyData} (h : AVok K G v (.tl xs)) : Dp K G v (.list xs) := by
  obtain ⟨a, vs, rfl, h1, h2⟩ := h
  exact .lst (.inl (.inl h1)) h2
theorem ev_tl {xs : List PyData} (h : Ev X O e ds (· = .tl xs)) : Ed X O e ds (.list xs) := fun G σ H w sd Q q => h G σ H w sd Q fun a v G' H' ha w' s' r => by
  subst ha
  exact q _ v G' H' rfl w' s' (av_tl r)
theorem ev_lc {scope : Scope} {own : List (Str × Nat)} {xs ys : List PyData} {S : OS} {f : PyData → AS → AS} {P : PyData → Prop} (hc : X.calm = true) (hN : X.N.Nodup) (hi : Iw X O S tg it ds xs) (hS : ∀ p ∈ S, p ∈ O) (ok : BlkOk X.N X.env.scope scope own)
    (ht : Tb X scope tg (own.map (·.2)) f P) (hP : ∀ x ∈ xs, P x) (hl : ys.length = xs.length) (hz : xs.length ≤ 1000) (hs : ∀ (i : Nat) (x y : PyData), xs[i]? = some x → ys[i]? = some y → Eb X scope O e (f x (wipeD ds (own.map (·.2)))) (· = .d y)) (hfold : ∀ x, foldedSetIterable it X.env x = pure x := by intro _; rfl) :
    Ev X O (.ListComp e [⟨tg, it, [], 0⟩] scope pos) ds (· = .tl ys) := fun G σ H w sd Q q => by
  obtain ⟨wi, g, te, h1, h2, h3, h4⟩ := lc_run (e := e) hi hS ht hP hl hz hs
  exact ⟨_, pe_lc hc hN h1 ok h2 (fun _ _ _ _ _ => pts_nil) h3 hfold, h4 G σ H w sd Q fun v G' H' w' s' r => q _ v G' H' rfl w' s' r⟩
theorem ed_lc {scope : Scope} {own : List (Str × Nat)} {xs ys : List PyData} {S : OS} {f : PyData → AS → AS} {P : PyData → Prop} (hc : X.calm = true) (hN : X.N.Nodup) (hi : Iw X O S tg it ds xs) (hS : ∀ p ∈ S, p ∈ O) (ok : BlkOk X.N X.env.scope scope own)
    (ht : Tb X scope tg (own.map (·.2)) f P) (hP : ∀ x ∈ xs, P x) (hl : ys.length = xs.length) (hz : xs.length ≤ 1000) (hs : ∀ (i : Nat) (x y : PyData), xs[i]? = some x → ys[i]? = some y → Eb X scope O e (f x (wipeD ds (own.map (·.2)))) (· = .d y)) (hfold : ∀ x, foldedSetIterable it X.env x = pure x := by intro _; rfl) :
    Ed X O (.ListComp e [⟨tg, it, [], 0⟩] scope pos) ds (.list ys) := ev_tl (ev_lc hc hN hi hS ok ht hP hl hz hs hfold)
/-- y = [..] on one line -/
theorem rn_setLc {scope : Scope} {own : List (Str × Nat)} {xs ys : List PyData} {S : OS} {f : PyData → AS → AS} {P : PyData → Prop} {y : Str} {py spos : Pos} (k : Nat) (hc : X.calm = true) (hN : X.N.Nodup) (hi : Iw X O S tg it ds xs) (hS : ∀ p ∈ S, p ∈ O) (ok : BlkOk X.N X.env.scope scope own)
    (ht : Tb X scope tg (own.map (·.2)) f P) (hP : ∀ x ∈ xs, P x) (hl : ys.length = xs.length) (hz : xs.length ≤ 1000) (hs : ∀ (i : Nat) (x y : PyData), xs[i]? = some x → ys[i]? = some y → Eb X scope O e (f x (wipeD ds (own.map (·.2)))) (· = .d y))
    (h : Rn X O rest (ds.set k (some (.d (.list ys)))) N R) (hy : X.N[k]? = some y := by rfl) (hyl : X.env.scope.names.lookup y = some .local := by rfl) (hsw : swapsWith (.ListComp e [⟨tg, it, [], 0⟩] scope pos) (some (.Name y py)) spos.line X.env = pure true)
    (hfold : ∀ x, foldedSetIterable it X.env x = pure x := by intro _; rfl) : Rn X O (.Assign [.Name y py] (.ListComp e [⟨tg, it, [], 0⟩] scope pos) spos :: rest) ds N R := fun D G σ H w sd hn hr => by
  obtain ⟨wi, g, te, h1, h2, h3, h4⟩ := lc_run (e := e) hi hS ht hP hl hz hs
  refine ⟨_, pss_cons (ps_setLc (i := k) hc hN hy hyl hsw h1 ok h2 (fun _ _ _ _ _ => pts_nil) h3 hfold) pss_ok, ?_⟩
  show tLc wi g tYes te (own.map (·.2)) σ H (fun x H1 => pss X rest D (σ.set k (some x)) H1)
  refine h4 G σ H w sd _ fun v G1 H1 w1 s1 r1 => ?_
  exact h D G1 _ H1 w1 ((sd.on s1).set (a := .d (.list ys)) (av_tl r1) k) (fun O' ds' G' σ' H' q w2 s2 => hn O' ds' G' σ' H' q w2 (s1.trans s2)) fun O' a v G' H' q w2 s2 => hr O' a v G' H' q w2 (s1.trans s2)
end
end Ea

namespace Ea
open PySem PySem.Spec PyProof.Rows L2

section
variable {X : Cx} {O : OS} {ds : AS} {e tg it a b c : Expr} {es : List Expr} {ss rest body orelse : List Stmt} {pos : Pos} {A : AV → Prop} {N : OS → AS → Prop} {R : OS → AV → Prop}
/-! ### owned objects: made, changed, let go, known from now on -/
theorem Wd.cons {K : PySem.W.Frag} {G H : Hp} {p : Addr} {v : OV} {o : HO} (w : Wd K O G H) (hp : H p = none) (hv : OVok K G (upd H p o) p v) : Wd K ((p, v) :: O) G (upd H p o) := by
  have hsm : Same H (upd H p o) := fun b x e => by rw [upd_ne (ne_of_none e hp)]; exact e
  have no : p ∉ adr O := fun hm => by
    obtain ⟨q, hq, eq⟩ := List.mem_map.mp hm
    exact ov_some (w.own q hq) (by rw [eq]; exact hp)
  refine ⟨w.sub.trans hsm, fun q hq => ?_, fun q hq => ?_, List.nodup_cons.mpr ⟨no, w.nd⟩⟩
  · rcases List.mem_cons.mp hq with z | z
    · rw [z]; exact hv
    · exact ov_keep (Same.refl G) (hsm _) (w.own q z)
  · rcases List.mem_cons.mp hq with z | z
    · rw [z]; exact w.sub.free hp
    · exact w.off q z
theorem st_new {M : List Addr} {G H : Hp} {p : Addr} {o : HO} (hp : H p = none) : Stp M G H G (upd H p o) := ⟨Same.refl G, fun b x e _ => by rw [upd_ne (ne_of_none e hp)]; exact e, fun _ h e => absurd e h, fun b h => by
  by_cases hb : b = p
  · rw [hb, upd_same]; exact fun z => nomatch z
  · rw [upd_ne hb]; exact h⟩
/-- the head's owned object changed -/
theorem Wd.chg {K : PySem.W.Frag} {G H : Hp} {p : Addr} {v u : OV} {o : HO} (w : Wd K ((p, v) :: O) G H) (hv : OVok K G (upd H p o) p u) : Wd K ((p, u) :: O) G (upd H p o) := by
  have no : p ∉ adr O := (List.nodup_cons.mp w.nd).1
  have gp : G p = none := w.off _ List.mem_cons_self
  refine ⟨fun b x e => ?_, fun q hq => ?_, fun q hq => ?_, w.nd⟩
  · rw [upd_ne (fun z => by rw [z, gp] at e; cases e)]; exact w.sub b x e
  · rcases List.mem_cons.mp hq with z | z
    · rw [z]; exact hv
    · have hq' : q.1 ≠ p := fun y => no (List.mem_map.mpr ⟨q, z, y⟩)
      exact ov_keep (Same.refl G) (fun x e => by rw [upd_ne hq']; exact e) (w.own q (List.mem_cons_of_mem _ z))
  · rcases List.mem_cons.mp hq with z | z
    · rw [z]; exact gp
    · exact w.off q (List.mem_cons_of_mem _ z)
theorem st_chg {M : List Addr} {G H : Hp} {p : Addr} {o : HO} (hp : p ∈ M) : Stp M G H G (upd H p o) := ⟨Same.refl G, fun b x e n => by rw [upd_ne (fun z => n (by rw [z]; exact hp))]; exact e, fun _ h e => absurd e h, fun b h => by
  by_cases hb : b = p
  · rw [hb, upd_same]; exact fun z => nomatch z
  · rw [upd_ne hb]; exact h⟩
theorem rn_own {p' p2 : Pos} (i : Nat) {x : Str} (h : ∀ q : Addr, Rn X ((q, .li []) :: O) rest (ds.set i (some (.own q))) N R) (hN : X.N.Nodup) (hi : X.N[i]? = some x := by rfl)
    (hx : Loc X.env.scope x := by first | exact Or.inl rfl | exact Or.inr rfl) (hs : swapsWith (.List [] p2) (some (.Name x p')) pos.line X.env = pure false := by rfl)
    (hf : X.fn x = true ∨ X.env.scope.names.lookup x = some .local := by first | exact .inl rfl | exact .inr rfl) : Rn X O (.Assign [.Name x p'] (.List [] p2) pos :: rest) ds N R := fun D G σ H w sd hn hr => by
  refine ⟨_, pss_cons (ps_set (i := i) hN hi hx (pe_lst pa_nil) hs hf) pss_ok, Nat.zero_le _, fun p hp => ?_⟩
  have w1 : Wd X.K ((p, .li []) :: O) G (upd H p (.lst [])) := w.cons hp ⟨[], upd_same, .nil⟩
  have s1 : Stp (adr O) G H G (upd H p (.lst [])) := st_new hp
  have hm : ∀ c ∈ adr ((p, OV.li []) :: O), c ∈ adr O ∨ H c = none := fun c hc => (List.mem_cons.mp hc).elim (fun z => .inr (by rw [z]; exact hp)) .inl
  exact h p D G _ _ w1 (sd.set (a := .own p) rfl i) (fun O' ds' G' σ' H' q w2 s2 => hn O' ds' G' σ' H' q w2 (s1.trans' s2 hm)) fun O' a v G' H' q w2 s2 => hr O' a v G' H' q w2 (s1.trans' s2 hm)
theorem rn_ownD {p' p2 : Pos} (i : Nat) {x : Str} (h : ∀ q : Addr, Rn X ((q, .dk []) :: O) rest (ds.set i (some (.own q))) N R) (hN : X.N.Nodup) (hi : X.N[i]? = some x := by rfl)
    (hx : Loc X.env.scope x := by first | exact Or.inl rfl | exact Or.inr rfl) (hs : swapsWith (.Dict [] [] p2) (some (.Name x p')) pos.line X.env = pure false := by rfl)
    (hf : X.fn x = true ∨ X.env.scope.names.lookup x = some .local := by first | exact .inl rfl | exact .inr rfl) : Rn X O (.Assign [.Name x p'] (.Dict [] [] p2) pos :: rest) ds N R := fun D G σ H w sd hn hr => by
  refine ⟨_, pss_cons (ps_set (i := i) hN hi hx pe_dnewK hs hf) pss_ok, fun p hp => ?_⟩
  have w1 : Wd X.K ((p, .dk []) :: O) G (upd H p (.dK [])) := w.cons hp ⟨[], upd_same, .nil⟩
  have s1 : Stp (adr O) G H G (upd H p (.dK [])) := st_new hp
  have hm : ∀ c ∈ adr ((p, OV.dk []) :: O), c ∈ adr O ∨ H c = none := fun c hc => (List.mem_cons.mp hc).elim (fun z => .inr (by rw [z]; exact hp)) .inl
  exact h p D G _ _ w1 (sd.set (a := .own p) rfl i) (fun O' ds' G' σ' H' q w2 s2 => hn O' ds' G' σ' H' q w2 (s1.trans' s2 hm)) fun O' a v G' H' q w2 s2 => hr O' a v G' H' q w2 (s1.trans' s2 hm)
theorem rn_drop {p : Addr × OV} (h : Rn X O ss ds N R) : Rn X (p :: O) ss ds N R := fun D G σ H w sd hn hr => by
  have w1 : Wd X.K O G H := ⟨w.sub, fun q hq => w.own q (List.mem_cons_of_mem _ hq), fun q hq => w.off q (List.mem_cons_of_mem _ hq), (List.nodup_cons.mp w.nd).2⟩
  have mo : ∀ c ∈ adr O, c ∈ adr (p :: O) := fun c hc => List.mem_cons_of_mem _ hc
  exact h D G σ H w1 sd (fun O' ds' G' σ' H' q w2 s2 => hn O' ds' G' σ' H' q w2 (s2.mono mo)) fun O' a v G' H' q w2 s2 => hr O' a v G' H' q w2 (s2.mono mo)
theorem rn_freeze {p : Addr} {xs : List PyData} (i : Nat) (hd : ds[i]? = some (some (.own p))) (h : Rn X O ss (ds.set i (some (.d (.list xs)))) N R) : Rn X ((p, .li xs) :: O) ss ds N R := fun D G σ H w sd hn hr => by
  obtain ⟨vs, e1, r1⟩ := w.own _ List.mem_cons_self
  have gp : G p = none := w.off _ List.mem_cons_self
  have no : p ∉ adr O := (List.nodup_cons.mp w.nd).1
  have hsm : Same G (upd G p (.lst vs)) := fun b x e => by rw [upd_ne (ne_of_none e gp)]; exact e
  have w1 : Wd X.K O (upd G p (.lst vs)) H := by
    refine ⟨fun b o eb => ?_, fun q hq => ov_keep hsm (fun _ z => z) (w.own q (List.mem_cons_of_mem _ hq)), fun q hq => ?_, (List.nodup_cons.mp w.nd).2⟩
    · by_cases hb : b = p
      · rw [hb, upd_same] at eb; rw [hb]; rw [show H p = some (.lst vs) from e1]; exact eb
      · rw [upd_ne hb] at eb; exact w.sub b o eb
    · rw [upd_ne (fun y => no (List.mem_map.mpr ⟨q, hq, y⟩))]; exact w.off q (List.mem_cons_of_mem _ hq)
  have s1 : Stp (adr ((p, OV.li xs) :: O)) G H (upd G p (.lst vs)) H := ⟨hsm, fun _ _ e _ => e, fun b e1 e2 => by
    by_cases hb : b = p
    · exact .inr (by rw [hb]; exact List.mem_cons_self)
    · rw [upd_ne hb] at e1; exact absurd e2 e1, fun _ h => h⟩
  have sd1 : SD X.K (upd G p (.lst vs)) σ (ds.set i (some (.d (.list xs)))) := by
    refine ⟨by rw [List.length_set]; exact sd.1, fun j q ej => ?_⟩
    rw [List.getElem?_set] at ej
    by_cases hij : i = j
    · rw [if_pos hij] at ej
      split at ej
      · cases ej
        obtain ⟨v, e2, e3⟩ := sd.2 i _ hd
        refine ⟨v, by rw [← hij]; exact e2, ?_⟩
        have e3' : v = V.ref p := e3
        subst e3'
        exact .lst (.inl (.inl upd_same)) (dpa_same hsm _ _ r1)
      · cases ej
    · rw [if_neg hij] at ej
      obtain ⟨v, e2, e3⟩ := sd.2 j q ej
      exact ⟨v, e2, av_same hsm e3⟩
  have mo : ∀ c ∈ adr O, c ∈ adr ((p, OV.li xs) :: O) := fun c hc => List.mem_cons_of_mem _ hc
  exact h D _ σ H w1 sd1 (fun O' ds' G' σ' H' q w2 s2 => hn O' ds' G' σ' H' q w2 (s1.trans (s2.mono mo))) fun O' a v G' H' q w2 s2 => hr O' a v G' H' q w2 (s1.trans (s2.mono mo))
/-- x.append(e) of the head's list -/
theorem rn_append {p : Addr} {xs : List PyData} {apos cpos : Pos} {o : Expr} (ho : Ev X ((p, .li xs) :: O) o ds (· = .own p)) (he : Ev X ((p, .li xs) :: O) e ds A) (hl : xs.length ≤ 1000)
    (h : ∀ a, A a → ∃ d, a = .d d ∧ Rn X ((p, .li (xs ++ [d])) :: O) rest ds N R) (hbase : attributeBase o "append" X.env (eval o X.env) = eval o X.env := by rfl)
    (hfew : ((backTo cpos (starEach (e :: []) X.env)).all (fun x => !x.1) && (backToKw cpos (keywordEach [] X.env)).all (fun x => x.1.isSome)
      && decide ((e :: []).length + ([] : List Keyword).length + (if ([] : List Keyword).isEmpty then 0 else 1) < 30)) = true := by rfl)
    (hline : (apos.endLine == cpos.line) = true := by rfl) (hst : starEach (e :: []) X.env = (false, eval e X.env) :: starEach [] X.env := by rfl) (hplain : (backTo cpos (starEach [] X.env)).any (·.1) = false := by rfl)
    (hs : swapsWith (.Call (.Attribute o "append" apos) [e] [] cpos) none pos.line X.env = pure false := by rfl) :
    Rn X ((p, .li xs) :: O) (.Expr (.Call (.Attribute o "append" apos) [e] [] cpos) pos :: rest) ds N R := fun D G σ H w sd hn hr => by
  refine ⟨_, pss_cons (ps_expr (pe_bm PySem.F.plainAttrs_list PySem.F.slot_list_append PySem.F.type_list_append mt_append pe_ok (pa_cons pe_ok pa_nil hst) hbase hfew hline hst hplain) hs) pss_ok, ?_⟩
  refine ho G σ H w sd _ fun a0 v0 G1 H1 ha0 w1 s1 r0 => ?_
  subst ha0
  have r0' : v0 = V.ref p := r0
  subst r0'
  obtain ⟨vs1, e1, _⟩ := w1.own _ List.mem_cons_self
  refine ⟨.inl ⟨rfl, _, .inl (.inl e1)⟩, he G1 σ H1 w1 (sd.on s1) _ fun a v G2 H2 ha w2 s2 r2 => ?_⟩
  obtain ⟨d, rfl, hk⟩ := h a ha
  obtain ⟨vs, e2, q2⟩ := w2.own _ List.mem_cons_self
  have hlen : vs.length ≤ 1000 := by rw [dpa_len q2]; exact hl
  refine ⟨p, vs, v, rfl, rfl, e2, small1000 hlen, ?_⟩
  have w3 : Wd X.K ((p, .li (xs ++ [d])) :: O) G2 (upd H2 p (.lst (vs ++ [v]))) := w2.chg ⟨_, upd_same, dpa_snoc q2 r2⟩
  have s3 : Stp (adr ((p, OV.li xs) :: O)) G2 H2 G2 (upd H2 p (.lst (vs ++ [v]))) := st_chg List.mem_cons_self
  have s4 := (s1.trans s2).trans s3
  exact hk D G2 σ _ w3 (sd.on s4) (fun O' ds' G' σ' H' q w2 s2 => hn O' ds' G' σ' H' q w2 (s4.trans s2)) fun O' a v G' H' q w2 s2 => hr O' a v G' H' q w2 (s4.trans s2)

/-- x = A + B, both lists made there: the new list is owned -/
theorem rn_catOwn {p' : Pos} {xs ys : List PyData} {bpos : Pos} (i : Nat) {x : Str} (ha : Ev X O a ds (· = .tl xs)) (hb : Ev X O b ds (· = .tl ys)) (hl : xs.length + ys.length ≤ 1000) (h : ∀ q : Addr, Rn X ((q, .li (xs ++ ys)) :: O) rest (ds.set i (some (.own q))) N R) (hN : X.N.Nodup) (hi : X.N[i]? = some x := by rfl)
    (hx : Loc X.env.scope x := by first | exact Or.inl rfl | exact Or.inr rfl) (hs : swapsWith (.BinOp a .Add b bpos) (some (.Name x p')) pos.line X.env = pure false := by rfl)
    (hf : X.fn x = true ∨ X.env.scope.names.lookup x = some .local := by first | exact .inl rfl | exact .inr rfl) : Rn X O (.Assign [.Name x p'] (.BinOp a .Add b bpos) pos :: rest) ds N R := fun D G σ H w sd hn hr => by
  refine ⟨_, pss_cons (ps_set (i := i) hN hi hx (pe_op op_cat pe_ok pe_ok) hs hf) pss_ok, ha G σ H w sd _ fun a1 v1 G1 H1 h1 w1 s1 r1 => hb G1 σ H1 w1 (sd.on s1) _ fun a2 v2 G2 H2 h2 w2 s2 r2 => ?_⟩
  subst h1 h2
  obtain ⟨l1, vs1, rfl, e1, d1⟩ := r1
  obtain ⟨l2, vs2, rfl, e2, d2⟩ := r2
  have s12 := s1.trans s2
  refine ⟨l1, l2, vs1, vs2, rfl, rfl, w2.sub _ _ (s2.gg _ _ e1), w2.sub _ _ e2, by rw [dpa_len d1, dpa_len d2]; exact sz15 hl, fun p hp => ?_⟩
  have w3 : Wd X.K ((p, .li (xs ++ ys)) :: O) G2 (upd H2 p (.lst (vs1 ++ vs2))) := w2.cons hp ⟨_, upd_same, dpa_append (dpa_same s2.gg _ _ d1) d2⟩
  have s3 : Stp (adr O) G H G2 (upd H2 p (.lst (vs1 ++ vs2))) := s12.trans (st_new hp)
  have hm : ∀ c ∈ adr ((p, OV.li (xs ++ ys)) :: O), c ∈ adr O ∨ H c = none := fun c hc => (List.mem_cons.mp hc).elim (fun z => .inr (by
    rw [z]
    by_cases y : H p = none
    · exact y
    · exact absurd hp (s12.dm p y))) .inl
  exact h p D G2 _ _ w3 ((sd.on s12).set (a := .own p) rfl i) (fun O' ds' G' σ' H' q w2 s2 => hn O' ds' G' σ' H' q w2 (s3.trans' s2 hm)) fun O' a v G' H' q w2 s2 => hr O' a v G' H' q w2 (s3.trans' s2 hm)
/-- x, y = [], e -/
theorem rn_parOwn {x y : Str} {px py pt p2 : Pos} {kt k2 pt2} {d : PyData} (i j : Nat) (hb : ∀ p : Addr, Ed X ((p, .li []) :: O) b ds d) (h : ∀ p : Addr, Rn X ((p, .li []) :: O) rest ((ds.set i (some (.own p))).set j (some (.d d))) N R) (hc : X.calm = true) (hN : X.N.Nodup) (hi : X.N[i]? = some x := by rfl) (hj : X.N[j]? = some y := by rfl) (hij : i ≠ j := by decide)
    (hx : X.env.scope.names.lookup x = some .local := by rfl) (hy : X.env.scope.names.lookup y = some .local := by rfl)
    (hw : swappedStores [.Tuple [.Name x px, .Name y py] kt pt] (.Tuple [.List [] p2, b] k2 pt2) X.env = pure (some [x, y]) := by rfl)
    (hs : swapsWithSole [.Tuple [.Name x px, .Name y py] kt pt] (.Tuple [.List [] p2, b] k2 pt2) pos.line X.env = pure false := by rfl)
    (hs1 : starEach (.List [] p2 :: [b]) X.env = (false, eval (.List [] p2) X.env) :: starEach [b] X.env := by rfl) (hs2 : starEach [b] X.env = (false, eval b X.env) :: starEach [] X.env := by rfl) :
    Rn X O (.Assign [.Tuple [.Name x px, .Name y py] kt pt] (.Tuple [.List [] p2, b] k2 pt2) pos :: rest) ds N R := fun D G σ H w sd hn hr => by
  refine ⟨_, pss_cons (L2.ps_par hc hN hi hj hij hx hy (pa_cons (pe_lst pa_nil) (pa_cons pe_ok pa_nil hs2) hs1) hw hs) pss_ok, Nat.zero_le _, fun p hp => ?_⟩
  have w1 : Wd X.K ((p, .li []) :: O) G (upd H p (.lst [])) := w.cons hp ⟨[], upd_same, .nil⟩
  have s1 : Stp (adr O) G H G (upd H p (.lst [])) := st_new hp
  have hm : ∀ c ∈ adr ((p, OV.li []) :: O), c ∈ adr O ∨ H c = none := fun c hc => (List.mem_cons.mp hc).elim (fun z => .inr (by rw [z]; exact hp)) .inl
  refine hb p G σ _ w1 sd _ fun a v G1 H1 ha w2 s2 r2 => ?_
  subst ha
  have s3 : Stp (adr ((p, OV.li []) :: O)) G (upd H p (.lst [])) G1 H1 := s2
  have s4 : Stp (adr O) G H G1 H1 := s1.trans' s3 hm
  refine ⟨_, _, rfl, ?_⟩
  exact h p D G1 _ H1 w2 (((sd.on s4).set (a := .own p) rfl i).set (a := .d d) r2 j) (fun O' ds' G' σ' H' q w2 s2 => hn O' ds' G' σ' H' q w2 (s4.trans' s2 hm)) fun O' a v G' H' q w2 s2 => hr O' a v G' H' q w2 (s4.trans' s2 hm)

/-! ### dicts -/
def valP (kvs : List (Key × PyData)) (k : Key) : Option PyData := (kvs.find? fun kv => decide (kv.1 = k)).map (·.2)
def putP (kvs : List (Key × PyData)) (k : Key) (v : PyData) : List (Key × PyData) :=
  if (kvs.any fun kv => decide (kv.1 = k)) = true then kvs.map (fun kv => if kv.1 = k then (kv.1, v) else kv) else kvs ++ [(k, v)]
theorem kd_val {K : PySem.W.Frag} {G : Hp} {k : Key} {x : PyData} : ∀ {vs : List (Key × V)} {kvs : List (Key × PyData)}, KD K G vs kvs → valP kvs k = some x → ∃ v, valV vs k = some v ∧ Dp K G v x
  | [], _, h, e => by cases h; cases e
  | p :: vs, _, h, e => by
    cases h with
    | @cons _ q _ qs h1 h2 =>
      obtain ⟨h3, h4⟩ := h1
      unfold valP at e
      rw [List.find?_cons] at e
      unfold valV
      rw [List.find?_cons]
      by_cases hk : q.1 = k
      · rw [decide_eq_true hk] at e
        rw [decide_eq_true (h3.trans hk)]
        cases e
        exact ⟨p.2, rfl, h4⟩
      · rw [decide_eq_false hk] at e
        rw [decide_eq_false (fun z => hk (h3.symm.trans z))]
        exact kd_val h2 e
theorem kd_any {K : PySem.W.Frag} {G : Hp} {k : Key} : ∀ {vs : List (Key × V)} {kvs : List (Key × PyData)}, KD K G vs kvs → (vs.any fun kv => decide (kv.1 = k)) = (kvs.any fun kv => decide (kv.1 = k))
  | [], _, h => by cases h; rfl
  | p :: vs, _, h => by
    cases h with
    | @cons _ q _ qs h1 h2 => rw [List.any_cons, List.any_cons, kd_any h2, h1.1]
theorem kd_app {K : PySem.W.Frag} {G : Hp} : ∀ {vs ws : List (Key × V)} {kvs kws : List (Key × PyData)}, KD K G vs kvs → KD K G ws kws → KD K G (vs ++ ws) (kvs ++ kws)
  | [], _, _, _, h, h' => by cases h; exact h'
  | p :: vs, _, _, _, h, h' => by
    cases h with
    | cons h1 h2 => exact .cons h1 (kd_app h2 h')
theorem kd_map {K : PySem.W.Frag} {G : Hp} {k : Key} {v : V} {x : PyData} (hv : Dp K G v x) : ∀ {vs : List (Key × V)} {kvs : List (Key × PyData)}, KD K G vs kvs → KD K G (vs.map fun kv => if kv.1 = k then (kv.1, v) else kv) (kvs.map fun kv => if kv.1 = k then (kv.1, x) else kv)
  | [], _, h => by cases h; exact .nil
  | p :: vs, _, h => by
    cases h with
    | @cons _ q _ qs h1 h2 =>
      rw [List.map_cons, List.map_cons]
      refine .cons ?_ (kd_map hv h2)
      obtain ⟨h3, h4⟩ := h1
      by_cases hk : q.1 = k
      · rw [if_pos hk, if_pos (h3.trans hk)]; exact ⟨h3, hv⟩
      · rw [if_neg hk, if_neg (fun z => hk (h3.symm.trans z))]; exact ⟨h3, h4⟩
theorem kd_put {K : PySem.W.Frag} {G : Hp} {k : Key} {v : V} {x : PyData} {vs : List (Key × V)} {kvs : List (Key × PyData)} (h : KD K G vs kvs) (hv : Dp K G v x) : KD K G (putK vs k v) (putP kvs k x) := by
  unfold putK putP
  rw [kd_any h]
  split
  · exact kd_map hv h
  · exact kd_app h (.cons ⟨rfl, hv⟩ .nil)
theorem kd_len {K : PySem.W.Frag} {G : Hp} {vs : List (Key × V)} {kvs : List (Key × PyData)} (h : KD K G vs kvs) : vs.length = kvs.length := Paired.length h
theorem kd_keys {K : PySem.W.Frag} {G : Hp} : ∀ {vs : List (Key × V)} {kvs : List (Key × PyData)}, KD K G vs kvs → vs.map (·.1) = kvs.map (·.1)
  | [], _, h => by cases h; rfl
  | p :: vs, _, h => by
    cases h with
    | @cons _ q _ qs h1 h2 => rw [List.map_cons, List.map_cons, kd_keys h2, h1.1]
def keyD : Key → PyData
  | .inl i => .int i
  | .inr s => .str s
theorem dp_key {K : PySem.W.Frag} {G : Hp} : ∀ k : Key, Dp K G (kV k) (keyD k)
  | .inl i => .int i
  | .inr s => .str s
theorem key_dp {K : PySem.W.Frag} {G : Hp} {v : V} : ∀ {k : Key}, Dp K G v (keyD k) → v = kV k
  | .inl i, h => by cases h; rfl
  | .inr s, h => by cases h; rfl
/-- d[k], d owned -/
theorem ed_dget {p : Addr} {kvs : List (Key × PyData)} {k : Key} {x : PyData} {n : Nat} (hr : Room n X.A) (ha : Ev X O a ds (· = .own p)) (hb : Ed X O b ds (keyD k)) (hm : (p, OV.dk kvs) ∈ O ∨ ∃ o us, (p, OV.dl o us kvs) ∈ O) (hx : valP kvs k = some x)
    (hs : NoSl b := by exact fun _ _ => rfl) : Ed X O (.Subscript a b pos) ds x := fun G σ H w sd Q q =>
  ⟨_, pe_dget (hu_of (hr.mono (Nat.zero_le _))) pe_ok pe_ok hs, ha G σ H w sd _ fun a1 v1 G1 H1 e1 w1 s1 r1 => hb G1 σ H1 w1 (sd.on s1) _ fun a2 v2 G2 H2 e2 w2 s2 r2 => by
    subst e1 e2
    have r1' : v1 = V.ref p := r1
    have r2' := key_dp r2
    rcases hm with hm | ⟨o, us, hm⟩
    · obtain ⟨vs, ev, kd⟩ := w2.own _ hm
      obtain ⟨v, h1, h2⟩ := kd_val kd hx
      exact ⟨p, v, r1', .inl ⟨vs, k, .inl ev, r2', h1.symm⟩, q _ _ G2 H2 rfl w2 (s1.trans s2) h2⟩
    · obtain ⟨ev, kd⟩ := w2.own _ hm
      obtain ⟨v, h1, h2⟩ := kd_val kd hx
      exact ⟨p, v, r1', .inl ⟨us, k, .inr ⟨o, ev⟩, r2', h1.symm⟩, q _ _ G2 H2 rfl w2 (s1.trans s2) h2⟩⟩
/-- d[k] = v of the head's dict -/
theorem rn_dput {p : Addr} {kvs : List (Key × PyData)} {B : AV → Prop} {value o i : Expr} {pos' : Pos} {n : Nat} (hr : Room n X.A) (hv : Ev X ((p, .dk kvs) :: O) value ds A) (ho : Ev X ((p, .dk kvs) :: O) o ds (· = .own p)) (hi : Ev X ((p, .dk kvs) :: O) i ds B) (hl : kvs.length ≤ 1000)
    (h : ∀ x y, A x → B y → ∃ d k, x = .d d ∧ y = .d (keyD k) ∧ Rn X ((p, .dk (putP kvs k d)) :: O) rest ds N R) (hs : swapsWith value (some (.Subscript o i pos')) pos.line X.env = pure false := by rfl) :
    Rn X ((p, .dk kvs) :: O) (.Assign [.Subscript o i pos'] value pos :: rest) ds N R := fun D G σ H w sd hn hr' => by
  refine ⟨_, pss_cons (ps_dput (hu_of (hr.mono (Nat.zero_le _))) pe_ok pe_ok pe_ok hs) pss_ok, ?_⟩
  refine hv G σ H w sd _ fun a1 v1 G1 H1 h1 w1 s1 r1 => ho G1 σ H1 w1 (sd.on s1) _ fun a2 v2 G2 H2 h2 w2 s2 r2 => hi G2 σ H2 w2 (sd.on (s1.trans s2)) _ fun a3 v3 G3 H3 h3 w3 s3 r3 => ?_
  obtain ⟨d, k, rfl, rfl, hk⟩ := h a1 a3 h1 h3
  subst h2
  have r2' : v2 = V.ref p := r2
  have r3' := key_dp r3
  subst r2' r3'
  obtain ⟨vs, ev, kd⟩ := w3.own _ List.mem_cons_self
  have ev' : H3 p = some (.dK vs) := ev
  refine ⟨p, _, rfl, DPut.k ev' (small1000 (by rw [kd_len kd]; exact hl)), ?_⟩
  have w4 : Wd X.K ((p, .dk (putP kvs k d)) :: O) G3 (upd H3 p (.dK (putK vs k v1))) := w3.chg ⟨_, upd_same, kd_put kd (dp_same (s2.trans s3).gg _ _ r1)⟩
  have s4 : Stp (adr ((p, OV.dk kvs) :: O)) G3 H3 G3 (upd H3 p (.dK (putK vs k v1))) := st_chg List.mem_cons_self
  have s5 := ((s1.trans s2).trans s3).trans s4
  exact hk D G3 σ _ w4 (sd.on s5) (fun O' ds' G' σ' H' q w2 s2 => hn O' ds' G' σ' H' q w2 (s5.trans s2)) fun O' a v G' H' q w2 s2 => hr' O' a v G' H' q w2 (s5.trans s2)
/-- sorted(d), the keys whole numbers -/
theorem ev_sortedI {p : Addr} {kvs : List (Key × PyData)} {ns : List Int} {p2 : Pos} (hcm : X.calm = true) (hm : X.mg "sorted" = none) (ha : Ev X O e ds (· = .own p)) (hmem : (p, OV.dk kvs) ∈ O) (hk : kvs.map (·.1) = ns.map Sum.inl) (h64 : ns.length < 64) (hg : Gl X "sorted" := by rfl)
    (he : starEach (e :: []) X.env = (false, eval e X.env) :: starEach [] X.env := by rfl) (hpl : (backTo pos (starEach [] X.env)).any (·.1) = false := by rfl) :
    Ev X O (.Call (.Name "sorted" p2) [e] [] pos) ds (fun a => ∃ ys : List Int, ys.Perm ns ∧ ys.Pairwise (· ≤ ·) ∧ a = .d (.list (ys.map PyData.int))) :=
  ev_callB (call_sortedDI hcm) hm (by decide +kernel) (ea_cons ha ea_nil he) (fun G H vs w r Q q => by
    obtain ⟨v, rfl, r1⟩ := avs1 r
    have r1' : v = V.ref p := r1
    subst r1'
    obtain ⟨ws, ev, kd⟩ := w.own _ hmem
    refine ⟨p, ws, ns, rfl, .inl ev, (kd_keys kd).trans hk, h64, fun ys l hy hs hl => ?_⟩
    obtain ⟨w2, s2⟩ := w.new (o := .lst (ys.map V.int)) hl
    exact q _ _ _ _ ⟨ys, hy, hs, rfl⟩ w2 s2 (.lst (.inl (.inl upd_same)) (dpa_of_ints ys))) hg (by decide) (by decide) he hpl
/-- sorted(d), the keys texts -/
theorem ev_sortedS {p : Addr} {kvs : List (Key × PyData)} {ns : List Str} {p2 : Pos} (hcm : X.calm = true) (hm : X.mg "sorted" = none) (ha : Ev X O e ds (· = .own p)) (hmem : (p, OV.dk kvs) ∈ O) (hk : kvs.map (·.1) = ns.map Sum.inr) (h64 : ns.length < 64) (hg : Gl X "sorted" := by rfl)
    (he : starEach (e :: []) X.env = (false, eval e X.env) :: starEach [] X.env := by rfl) (hpl : (backTo pos (starEach [] X.env)).any (·.1) = false := by rfl) :
    Ev X O (.Call (.Name "sorted" p2) [e] [] pos) ds (fun a => ∃ ys : List Str, ys.Perm ns ∧ sortedS ys = true ∧ a = .d (.list (ys.map PyData.str))) :=
  ev_callB (call_sortedD hcm) hm (by decide +kernel) (ea_cons ha ea_nil he) (fun G H vs w r Q q => by
    obtain ⟨v, rfl, r1⟩ := avs1 r
    have r1' : v = V.ref p := r1
    subst r1'
    obtain ⟨ws, ev, kd⟩ := w.own _ hmem
    refine ⟨p, ws, ns, rfl, .inl ev, (kd_keys kd).trans hk, h64, fun ys l hy hs hl => ?_⟩
    obtain ⟨w2, s2⟩ := w.new (o := .lst (ys.map V.str)) hl
    exact q _ _ _ _ ⟨ys, hy, hs, rfl⟩ w2 s2 (.lst (.inl (.inl upd_same)) (dpa_of_strs ys))) hg (by decide) (by decide) he hpl
/-- d = {k: x, l: y}, two keys that differ -/
theorem rn_disp2 {p' : Pos} (i : Nat) {x : Str} {ka kb va vb : Expr} {s t : Str} {dx dy : PyData} {p2 : Pos} (h1 : Ed X O ka ds (.str s)) (h2 : Ed X O va ds dx) (h3 : Ed X O kb ds (.str t)) (h4 : Ed X O vb ds dy) (hst : s ≠ t)
    (h : ∀ q : Addr, Rn X ((q, .dk [(.inr s, dx), (.inr t, dy)]) :: O) rest (ds.set i (some (.own q))) N R) (hN : X.N.Nodup) (hi : X.N[i]? = some x := by rfl)
    (hx : Loc X.env.scope x := by first | exact Or.inl rfl | exact Or.inr rfl) (hs : swapsWith (.Dict [some ka, some kb] [va, vb] p2) (some (.Name x p')) pos.line X.env = pure false := by rfl)
    (hf : X.fn x = true ∨ X.env.scope.names.lookup x = some .local := by first | exact .inl rfl | exact .inr rfl) : Rn X O (.Assign [.Name x p'] (.Dict [some ka, some kb] [va, vb] p2) pos :: rest) ds N R := fun D G σ H w sd hn hr => by
  refine ⟨_, pss_cons (ps_set (i := i) hN hi hx (pe_disp (pps_cons pe_ok pe_ok (pps_cons pe_ok pe_ok pps_nil)) (by rfl) (by rfl) (fun z => by cases z) (by show 2 ≤ 15; decide)) hs hf) pss_ok, fun p hp => ?_⟩
  have w0 : Wd X.K O G (upd H p (.dK [])) := by
    have q := w.cons (v := .dk []) (o := .dK []) hp ⟨[], upd_same, .nil⟩
    exact ⟨q.sub, fun z hz => q.own z (List.mem_cons_of_mem _ hz), fun z hz => q.off z (List.mem_cons_of_mem _ hz), (List.nodup_cons.mp q.nd).2⟩
  have no : p ∉ adr O := fun hm => by
    obtain ⟨q, hq, eq⟩ := List.mem_map.mp hm
    exact ov_some (w.own q hq) (by rw [eq]; exact hp)
  have s0 : Stp (adr O) G H G (upd H p (.dK [])) := st_new hp
  refine h1 G σ _ w0 sd _ fun a1 v1 G1 H1 e1 w1 s1 r1 => h2 G1 σ H1 w1 (sd.on s1) _ fun a2 v2 G2 H2 e2 w2 s2 r2 => h3 G2 σ H2 w2 (sd.on (s1.trans s2)) _ fun a3 v3 G3 H3 e3 w3 s3 r3 =>
    h4 G3 σ H3 w3 (sd.on ((s1.trans s2).trans s3)) _ fun a4 v4 G4 H4 e4 w4 s4 r4 => ?_
  subst e1 e2 e3 e4
  cases r1
  cases r3
  have s14 := ((s1.trans s2).trans s3).trans s4
  have hp4 : H4 p = some (.dK []) := s14.hh _ _ upd_same no
  refine ⟨hp4, [(.inr s, v2), (.inr t, v4)], rfl, (by show 2 ≤ 15; decide), ?_⟩
  have em : mergeK [] [(Sum.inr s, v2), (Sum.inr t, v4)] = [((Sum.inr s : Key), v2), (Sum.inr t, v4)] := by
    show putK (putK [] (Sum.inr s) v2) (Sum.inr t) v4 = _
    rw [show putK [] (Sum.inr s : Key) v2 = [((Sum.inr s : Key), v2)] from rfl]
    refine putK_new v4 ?_
    rw [valV_neg (fun z => hst (Sum.inr.inj z))]
    rfl
  show pss X rest D (σ.set i (some (.ref p))) (upd H4 p (.dK (mergeK [] [(Sum.inr s, v2), (Sum.inr t, v4)])))
  rw [em]
  have g4 : G4 p = none := by
    by_cases z : G4 p = none
    · exact z
    · rcases s14.fr p z (w.sub.free hp) with y | y
      · rw [upd_same] at y; cases y
      · exact absurd y no
  have w5 : Wd X.K ((p, .dk [(.inr s, dx), (.inr t, dy)]) :: O) G4 (upd H4 p (.dK [(.inr s, v2), (.inr t, v4)])) := by
    have q : Wd X.K ((p, .dk []) :: O) G4 H4 := ⟨w4.sub, fun z hz => (List.mem_cons.mp hz).elim (fun y => by rw [y]; exact ⟨[], hp4, .nil⟩) (w4.own z), fun z hz => (List.mem_cons.mp hz).elim (fun y => by rw [y]; exact g4) (w4.off z), List.nodup_cons.mpr ⟨no, w4.nd⟩⟩
    exact q.chg ⟨_, upd_same, .cons ⟨rfl, dp_same (s3.trans s4).gg _ _ r2⟩ (.cons ⟨rfl, r4⟩ .nil)⟩
  have mo : ∀ c ∈ adr O, c ∈ p :: adr O := fun c hc => List.mem_cons_of_mem _ hc
  have s5 : Stp (p :: adr O) G (upd H p (.dK [])) G4 (upd H4 p (.dK [(.inr s, v2), (.inr t, v4)])) := (s14.mono mo).trans (st_chg List.mem_cons_self)
  have hm : ∀ c ∈ p :: adr O, c ∈ adr O ∨ H c = none := fun c hc => (List.mem_cons.mp hc).elim (fun z => .inr (by rw [z]; exact hp)) .inl
  have s6 : Stp (adr O) G H G4 (upd H4 p (.dK [(.inr s, v2), (.inr t, v4)])) := s0.trans' s5 hm
  exact h p D G4 _ _ w5 ((sd.on s6).set (a := .own p) rfl i) (fun O' ds' G' σ' H' q w2 s2 => hn O' ds' G' σ' H' q w2 (s6.trans' s2 hm)) fun O' a v G' H' q w2 s2 => hr O' a v G' H' q w2 (s6.trans' s2 hm)

/-! the keys of a locked dict walked -/
theorem kd_at {K : PySem.W.Frag} {G : Hp} : ∀ {vs : List (Key × V)} {kvs : List (Key × PyData)} {i : Nat} {q : Key × V}, KD K G vs kvs → vs[i]? = some q → ∃ x, kvs[i]? = some (q.1, x) ∧ Dp K G q.2 x
  | [], _, i, q, h, e => by simp at e
  | p :: vs, _, 0, q, h, e => by
    cases h with
    | @cons _ r _ qs h1 h2 =>
      have e' : p = q := by simpa using e
      subst e'
      exact ⟨r.2, by rw [h1.1]; rfl, h1.2⟩
  | p :: vs, _, i + 1, q, h, e => by
    cases h with
    | cons h1 h2 =>
      obtain ⟨x, e1, e2⟩ := kd_at (i := i) h2 (by simpa using e)
      exact ⟨x, by simpa using e1, e2⟩
theorem iw_keys {p : Addr} {o : Obj} {us : List (Key × V)} {kvs : List (Key × PyData)} (h : Ev X O it ds (· = .own p)) (hm : (p, OV.dl o us kvs) ∈ O) : Iw X O [(p, .dl o us kvs)] tg it ds (kvs.map fun z => keyD z.1) := ⟨_, pi_keys pe_ok, fun G σ H w sd R q => h G σ H w sd _ fun a v G1 H1 ha w1 s1 r1 => by
  subst ha
  have r1' : v = V.ref p := r1
  subst r1'
  obtain ⟨ev, kd⟩ := w1.own _ hm
  refine ⟨p, o, rfl, .inl ⟨us, ev, q _ G1 H1 w1 s1 fun O' G' H' gg w' hS => ?_⟩⟩
  obtain ⟨ev', kd'⟩ := w'.own _ (hS _ List.mem_cons_self)
  have hl := kd_len kd'
  rw [List.length_map]
  refine ⟨fun i hi => ⟨ev', by rw [hl]; exact hi⟩, ⟨ev', by rw [hl]; exact Nat.le_refl _⟩, fun i x u H2 hx hy => ?_⟩
  obtain ⟨e1, k, w3, e2, e3⟩ := hy
  obtain ⟨x2, e4, _⟩ := kd_at kd' e2
  rw [List.getElem?_map, e4] at hx
  cases hx
  rw [e3]
  exact ⟨e1, dp_key k⟩⟩
/-- for k in d: the dict is locked while it is walked -/
theorem rn_forD {p : Addr} {kvs : List (Key × PyData)} (Inv : Nat → AS → Prop) (hp : PassesOwn (model X.prog X.w) X.A X.env X.xe) (hc : X.calm = true) (h0 : Inv 0 ds)
    (hi : ∀ od us, Ev X ((p, .dl od us kvs) :: O) it ds (· = .own p))
    (hs : ∀ od us i k x ds', kvs[i]? = some (k, x) → Inv i ds' → ∃ ds2, Tgt X tg ds' (keyD k) ds2 ∧ Rn X ((p, .dl od us kvs) :: O) body ds2 (fun O2 ds3 => O2 = (p, .dl od us kvs) :: O ∧ Inv (i + 1) ds3) (fun O2 a => O2 = (p, .dl od us kvs) :: O ∧ R ((p, .dk kvs) :: O) a))
    (hd : ∀ ds', Inv kvs.length ds' → Rn X ((p, .dk kvs) :: O) rest ds' N R) (hfold : ∀ x, foldedSetIterable it X.env x = pure x := by intro _; rfl) : Rn X ((p, .dk kvs) :: O) (.For tg it body [] pos :: rest) ds N R := fun D G σ H w sd hn hr => by
  obtain ⟨us, eu, kd⟩ := w.own _ List.mem_cons_self
  have eu' : H p = some (.dK us) := eu
  have no : p ∉ adr O := (List.nodup_cons.mp w.nd).1
  -- the For's own reading, with the iterator that iw_keys hands
  have hpi : PI X tg it (fun σ H R => pe X it σ H fun x H1 => ∃ d o, x = .ref d ∧ ((∃ kvs, H1 d = some (.frz o (.dK kvs)) ∧ R (Itk d o kvs) H1) ∨ ∃ kvs, H1 d = some (.frz o (.dT kvs)) ∧ R (Itkt d o kvs) H1)) := pi_keys pe_ok
  refine ⟨_, pss_cons (ps_lock (ps_for hp hc hpi pg_ok pss_ok hfold)) pss_ok, p, .dK us, eu', True.intro, fun od => ?_⟩
  have w1 : Wd X.K ((p, .dl od us kvs) :: O) G (upd H p (.frz od (.dK us))) := w.chg ⟨upd_same, kd⟩
  have s1 : Stp (adr ((p, OV.dl od us kvs) :: O)) G H G (upd H p (.frz od (.dK us))) := st_chg List.mem_cons_self
  refine hi od us G σ _ w1 sd _ fun a v G1 H1 ha w2 s2 r2 => ?_
  subst ha
  have r2' : v = V.ref p := r2
  subst r2'
  obtain ⟨ev, kd1⟩ := w2.own _ List.mem_cons_self
  have hl := kd_len kd
  refine ⟨p, od, rfl, .inl ⟨us, ev, fun i m σ' H' => m = kvs.length - i ∧ i ≤ kvs.length ∧ ∃ ds' G', Inv i ds' ∧ Wd X.K ((p, .dl od us kvs) :: O) G' H' ∧ Stp (p :: adr O) G H G' H' ∧ SD X.K G' σ' ds', ⟨_, rfl, Nat.zero_le _, ds, G1, h0, w2, s1.trans s2, sd.on s2⟩, ?_⟩⟩
  -- behind the loop the dict is what it was
  have back : ∀ {G' H' : Hp}, Wd X.K ((p, .dl od us kvs) :: O) G' H' → Stp (p :: adr O) G H G' H' → Wd X.K ((p, .dk kvs) :: O) G' (upd H' p (.dK us)) ∧ Stp (p :: adr O) G H G' (upd H' p (.dK us)) ∧ H' p = some (.frz od (.dK us)) := fun {G' H'} w' s' => by
    obtain ⟨e1, k1⟩ := w'.own _ List.mem_cons_self
    exact ⟨w'.chg ⟨us, upd_same, k1⟩, s'.trans (st_chg List.mem_cons_self), e1⟩
  rintro i m σ2 H2 ⟨rfl, hil, ds2, G2, inv, w3, s3, sd3⟩
  obtain ⟨e3, kd3⟩ := w3.own _ List.mem_cons_self
  by_cases hlt : i < kvs.length
  · refine .inr ⟨⟨e3, by rw [hl]; exact hlt⟩, fun σ' H' => ∃ ds' G', Inv (i + 1) ds' ∧ Wd X.K ((p, .dl od us kvs) :: O) G' H' ∧ Stp (p :: adr O) G H G' H' ∧ SD X.K G' σ' ds', fun σ' H' q => ⟨_, by omega, rfl, hlt, q⟩, fun v H' hy => ?_⟩
    obtain ⟨e1, k, u, e4, e5⟩ := hy
    subst e1 e5
    obtain ⟨x, e6, _⟩ := kd_at kd3 e4
    obtain ⟨ds3, ht, hb⟩ := hs od us i k x ds2 e6 inv
    refine ht G2 σ2 H' _ sd3 w3.sub (dp_key k) _ fun σ3 sd4 => hb _ G2 σ3 H' w3 sd4 (fun O' ds' G' σ' H4 q w4 s4 sd5 => ?_) fun O' a v G' H4 q w4 s4 r4 => ?_
    · obtain ⟨rfl, q⟩ := q
      exact ⟨ds', G', q, w4, s3.trans s4, sd5⟩
    · obtain ⟨rfl, q⟩ := q
      obtain ⟨b1, b2, b3⟩ := back w4 (s3.trans s4)
      exact ⟨b3, hr _ a v G' _ q b1 b2 r4⟩
  · have e : i = kvs.length := by omega
    subst e
    obtain ⟨b1, b2, b3⟩ := back w3 s3
    refine .inl ⟨⟨e3, by rw [hl]; exact Nat.le_refl _⟩, b3, hd ds2 inv D G2 σ2 _ b1 sd3 (fun O' ds' G' σ' H' q w4 s4 => hn O' ds' G' σ' H' q w4 (b2.trans s4)) fun O' a v G' H' q w4 s4 => hr O' a v G' H' q w4 (b2.trans s4)⟩
end

/-- the body of the loop at the head -/
def forBody : List Stmt → List Stmt
  | .For _ _ b _ _ :: _ => b
  | _ => []
/-! ### a def by its body -/
section
variable {P : Program} {w : World} {K : PySem.W.Frag} {mg : Str → Option Value} {base : Heap}
/-- a def of the text, at its place, under its name -/
structure At (K : PySem.W.Frag) (mg : Str → Option Value) (x : Str) (st : Stmt) : Prop where
  ex : ∃ f fd, Fun K x x st f fd ∧ mg x = some (.ref f)
abbrev Bx (P : Program) (w : World) (K : PySem.W.Frag) (mg : Str → Option Value) (base : Heap) (N : List Str) (x : Str) (st : Stmt) (f : Addr) (cdv : Value) (A : Around) (outer : List Env) (s : Shared) (H : Hp) (E : XK) : Cx := (cxOf CX0 P w K mg base N x (defScope st) f cdv A outer s H E).nox
theorem df_mk {x : Str} {st : Stmt} {N ps : List Str} {k : Nat} {R : RF} (T : At K mg x st) (S : FnScope N ps (defScope st))
    (hb : ∀ (kV doc pm : Value) (an : Option Addr) (cdv ct : Value) (us : List Value), us.length = ps.length → bindArgs (PySem.W.fnOf x x (defArgs st) (defBody st) (defScope st) .none kV doc pm an cdv ct) ⟨us, []⟩ = pure (ps.zip us))
    (hlen : ∀ O as B, R O as B → as.length = ps.length)
    (body : ∀ (f : Addr) (cdv : Value) (A : Around) (outer : List Env) (s : Shared) (H : Hp) (E : XK), Room k (Bx P w K mg base N x st f cdv A outer s H E).A → ∀ O as B, R O as B →
      Rn (Bx P w K mg base N x st f cdv A outer s H E) O (defBody st) (startD N.length as) (fun O' _ => O' = O ∧ B .none) (fun O' a => O' = O ∧ ∃ d, a = .d d ∧ B d)) : Df P w K mg base (k + 1) x R := by
  obtain ⟨f, fd, F, hm⟩ := T.ex
  refine ⟨f, fd, ps, F.ok S (fun vs H Q E h => ?_) (fun cdv A outer s H vs Q E hr h => ?_), hm, F.kp, F.binds hb⟩
  · obtain ⟨G, O, as, B, hR, _, hv, _⟩ := h
    rw [← hlen O as B hR]
    exact Paired.length hv
  · obtain ⟨G, O, as, B, hR, hw, hv, q⟩ := h
    have hX := body f cdv A outer s H E hr O as B hR { nx := fun _ H' => Q .non H', rt := Q } G _ H hw (SD.start hv) (fun O' ds' G' σ' H' z w' s' _ => by
      obtain ⟨rfl, z⟩ := z
      exact q .none .non G' H' z w' s' .non) (fun O' a v G' H' z w' s' r => by
      obtain ⟨rfl, d, rfl, z⟩ := z
      exact q d v G' H' z w' s' r)
    exact hX
theorem df_mk2 {x : Str} {st : Stmt} {N ps : List Str} {k : Nat} {R : RF} (T : At K mg x st) (S : FnScope N ps (defScope st))
    (hb : ∀ (kV doc pm : Value) (an : Option Addr) (cdv ct : Value) (us : List Value), us.length = ps.length → bindArgs (PySem.W.fnOf x x (defArgs st) (defBody st) (defScope st) .none kV doc pm an cdv ct) ⟨us, []⟩ = pure (ps.zip us))
    (hlen : ∀ O as B, R O as B → as.length = ps.length)
    (body : ∀ (f : Addr) (cdv : Value) (A : Around) (outer : List Env) (s : Shared) (H : Hp) (E : XK), Room k (Bx P w K mg base N x st f cdv A outer s H E).A → ∀ O as B, R O as B →
      Rn (Bx P w K mg base N x st f cdv A outer s H E) O (defBody st) (startD N.length as) (fun O' _ => (∀ q ∈ O, q ∈ O') ∧ B .none) (fun O' a => (∀ q ∈ O, q ∈ O') ∧ ∃ d, a = .d d ∧ B d)) : Df P w K mg base (k + 1) x R := by
  obtain ⟨f, fd, F, hm⟩ := T.ex
  refine ⟨f, fd, ps, F.ok S (fun vs H Q E h => ?_) (fun cdv A outer s H vs Q E hr h => ?_), hm, F.kp, F.binds hb⟩
  · obtain ⟨G, O, as, B, hR, _, hv, _⟩ := h
    rw [← hlen O as B hR]
    exact Paired.length hv
  · obtain ⟨G, O, as, B, hR, hw, hv, q⟩ := h
    have hX := body f cdv A outer s H E hr O as B hR { nx := fun _ H' => Q .non H', rt := Q } G _ H hw (SD.start hv) (fun O' ds' G' σ' H' z w' s' _ => by
      obtain ⟨hs, z⟩ := z
      exact q .none .non G' H' z ⟨w'.sub, fun p hp => w'.own p (hs p hp), fun p hp => w'.off p (hs p hp), hw.nd⟩ s' .non) (fun O' a v G' H' z w' s' r => by
      obtain ⟨hs, d, rfl, z⟩ := z
      exact q d v G' H' z ⟨w'.sub, fun p hp => w'.own p (hs p hp), fun p hp => w'.off p (hs p hp), hw.nd⟩ s' r)
    exact hX
end
end Ea

namespace Ea
open PySem PySem.Spec PyProof.Rows L2
section
variable {X : Cx} {O : OS} {ds : AS} {e a b c d : Expr} {es : List Expr} {pos : Pos} {x y z u : PyData}
/-! ### displays of few items -/
theorem ed_tup0 {k} : Ed X O (.Tuple [] k pos) ds (.tuple []) := ed_tup (xs := []) ea_nil
theorem ed_tup1 {k} (ha : Ed X O a ds x) (h1 : starEach (a :: []) X.env = (false, eval a X.env) :: starEach [] X.env := by rfl) : Ed X O (.Tuple [a] k pos) ds (.tuple [x]) := ed_tup (xs := [x]) (ea_cons ha ea_nil h1) (by simp only [List.length_cons, List.length_nil]; decide)
theorem ed_tup2 {k} (ha : Ed X O a ds x) (hb : Ed X O b ds y) (h1 : starEach (a :: [b]) X.env = (false, eval a X.env) :: starEach [b] X.env := by rfl) (h2 : starEach (b :: []) X.env = (false, eval b X.env) :: starEach [] X.env := by rfl) : Ed X O (.Tuple [a, b] k pos) ds (.tuple [x, y]) := ed_tup (xs := [x, y]) (ea_cons ha (ea_cons hb ea_nil h2) h1) (by simp only [List.length_cons, List.length_nil]; decide)
theorem ed_tup3 {k} (ha : Ed X O a ds x) (hb : Ed X O b ds y) (hc : Ed X O c ds z) (h1 : starEach (a :: [b, c]) X.env = (false, eval a X.env) :: starEach [b, c] X.env := by rfl) (h2 : starEach (b :: [c]) X.env = (false, eval b X.env) :: starEach [c] X.env := by rfl)
    (h3 : starEach (c :: []) X.env = (false, eval c X.env) :: starEach [] X.env := by rfl) : Ed X O (.Tuple [a, b, c] k pos) ds (.tuple [x, y, z]) := ed_tup (xs := [x, y, z]) (ea_cons ha (ea_cons hb (ea_cons hc ea_nil h3) h2) h1) (by simp only [List.length_cons, List.length_nil]; decide)
theorem ed_lst0 : Ed X O (.List [] pos) ds (.list []) := ed_lst (xs := []) ea_nil
theorem ed_lst1 (ha : Ed X O a ds x) (h1 : starEach (a :: []) X.env = (false, eval a X.env) :: starEach [] X.env := by rfl) : Ed X O (.List [a] pos) ds (.list [x]) := ed_lst (xs := [x]) (ea_cons ha ea_nil h1) (by simp only [List.length_cons, List.length_nil]; decide)
theorem ed_lst2 (ha : Ed X O a ds x) (hb : Ed X O b ds y) (h1 : starEach (a :: [b]) X.env = (false, eval a X.env) :: starEach [b] X.env := by rfl) (h2 : starEach (b :: []) X.env = (false, eval b X.env) :: starEach [] X.env := by rfl) : Ed X O (.List [a, b] pos) ds (.list [x, y]) := ed_lst (xs := [x, y]) (ea_cons ha (ea_cons hb ea_nil h2) h1) (by simp only [List.length_cons, List.length_nil]; decide)
theorem ed_lst3 (ha : Ed X O a ds x) (hb : Ed X O b ds y) (hc : Ed X O c ds z) (h1 : starEach (a :: [b, c]) X.env = (false, eval a X.env) :: starEach [b, c] X.env := by rfl) (h2 : starEach (b :: [c]) X.env = (false, eval b X.env) :: starEach [c] X.env := by rfl)
    (h3 : starEach (c :: []) X.env = (false, eval c X.env) :: starEach [] X.env := by rfl) : Ed X O (.List [a, b, c] pos) ds (.list [x, y, z]) := ed_lst (xs := [x, y, z]) (ea_cons ha (ea_cons hb (ea_cons hc ea_nil h3) h2) h1) (by simp only [List.length_cons, List.length_nil]; decide)
theorem ed_lst4 (ha : Ed X O a ds x) (hb : Ed X O b ds y) (hc : Ed X O c ds z) (hd : Ed X O d ds u) (h1 : starEach (a :: [b, c, d]) X.env = (false, eval a X.env) :: starEach [b, c, d] X.env := by rfl) (h2 : starEach (b :: [c, d]) X.env = (false, eval b X.env) :: starEach [c, d] X.env := by rfl)
    (h3 : starEach (c :: [d]) X.env = (false, eval c X.env) :: starEach [d] X.env := by rfl) (h4 : starEach (d :: []) X.env = (false, eval d X.env) :: starEach [] X.env := by rfl) : Ed X O (.List [a, b, c, d] pos) ds (.list [x, y, z, u]) := ed_lst (xs := [x, y, z, u]) (ea_cons ha (ea_cons hb (ea_cons hc (ea_cons hd ea_nil h4) h3) h2) h1) (by simp only [List.length_cons, List.length_nil]; decide)
/-! ### == of ints, texts, truths -/
theorem decI {i j : Int} : decide (V.int i = V.int j) = decide (i = j) := by
  by_cases h : i = j
  · subst h; simp
  · rw [decide_eq_false h, decide_eq_false fun z => h (V.int.inj z)]
theorem decS {i j : Str} : decide (V.str i = V.str j) = decide (i = j) := by
  by_cases h : i = j
  · subst h; simp
  · rw [decide_eq_false h, decide_eq_false fun z => h (V.str.inj z)]
theorem decB {i j : Bool} : decide (V.bl i = V.bl j) = decide (i = j) := by
  by_cases h : i = j
  · subst h; simp
  · rw [decide_eq_false h, decide_eq_false fun z => h (V.bl.inj z)]
theorem ro_eqI {i j : Int} : Ro X.K O rEq (.d (.int i)) (.d (.int j)) (· = .d (.bool (decide (i = j)))) := fun G H u v w hu hv Q q => by
  cases hu; cases hv
  refine ⟨rfl, ?_⟩
  rw [decI]
  exact q _ _ G H rfl w Stp.refl (.bl _)
theorem ro_neI {i j : Int} : Ro X.K O rNe (.d (.int i)) (.d (.int j)) (· = .d (.bool (!decide (i = j)))) := fun G H u v w hu hv Q q => by
  cases hu; cases hv
  refine ⟨rfl, ?_⟩
  rw [decI]
  exact q _ _ G H rfl w Stp.refl (.bl _)
theorem ro_eqS {i j : Str} : Ro X.K O rEq (.d (.str i)) (.d (.str j)) (· = .d (.bool (decide (i = j)))) := fun G H u v w hu hv Q q => by
  cases hu; cases hv
  refine ⟨rfl, ?_⟩
  rw [decS]
  exact q _ _ G H rfl w Stp.refl (.bl _)
theorem ro_neS {i j : Str} : Ro X.K O rNe (.d (.str i)) (.d (.str j)) (· = .d (.bool (!decide (i = j)))) := fun G H u v w hu hv Q q => by
  cases hu; cases hv
  refine ⟨rfl, ?_⟩
  rw [decS]
  exact q _ _ G H rfl w Stp.refl (.bl _)
theorem ro_neB {i j : Bool} : Ro X.K O rNe (.d (.bool i)) (.d (.bool j)) (· = .d (.bool (!decide (i = j)))) := fun G H u v w hu hv Q q => by
  cases hu; cases hv
  refine ⟨rfl, ?_⟩
  rw [decB]
  exact q _ _ G H rfl w Stp.refl (.bl _)
theorem ed_eqI {i j : Int} (ha : Ed X O a ds (.int i)) (hb : Ed X O b ds (.int j)) : Ed X O (.Compare a [.Eq] [b] pos) ds (.bool (decide (i = j))) := ev_cmp op_eq ha hb (det2 ro_eqI) (nomark _)
theorem et_eqI {i j : Int} (ha : Ed X O a ds (.int i)) (hb : Ed X O b ds (.int j)) : EvT X O (.Compare a [.Eq] [b] pos) ds (decide (i = j)) := et_cmp op_eq ha hb (det2 ro_eqI) (nomark _)
theorem ed_neI {i j : Int} (ha : Ed X O a ds (.int i)) (hb : Ed X O b ds (.int j)) : Ed X O (.Compare a [.NotEq] [b] pos) ds (.bool (!decide (i = j))) := ev_cmp op_ne ha hb (det2 ro_neI) (nomark _)
theorem et_neI {i j : Int} (ha : Ed X O a ds (.int i)) (hb : Ed X O b ds (.int j)) : EvT X O (.Compare a [.NotEq] [b] pos) ds (!decide (i = j)) := et_cmp op_ne ha hb (det2 ro_neI) (nomark _)
theorem ed_eqS {i j : Str} (ha : Ed X O a ds (.str i)) (hb : Ed X O b ds (.str j)) : Ed X O (.Compare a [.Eq] [b] pos) ds (.bool (decide (i = j))) := ev_cmp op_eq ha hb (det2 ro_eqS) (nomark _)
theorem et_eqS {i j : Str} (ha : Ed X O a ds (.str i)) (hb : Ed X O b ds (.str j)) : EvT X O (.Compare a [.Eq] [b] pos) ds (decide (i = j)) := et_cmp op_eq ha hb (det2 ro_eqS) (nomark _)
theorem et_neS {i j : Str} (ha : Ed X O a ds (.str i)) (hb : Ed X O b ds (.str j)) : EvT X O (.Compare a [.NotEq] [b] pos) ds (!decide (i = j)) := et_cmp op_ne ha hb (det2 ro_neS) (nomark _)
theorem et_neB {i j : Bool} (ha : Ed X O a ds (.bool i)) (hb : Ed X O b ds (.bool j)) : EvT X O (.Compare a [.NotEq] [b] pos) ds (!decide (i = j)) := et_cmp op_ne ha hb (det2 ro_neB) (nomark _)
theorem ed_dgetS {p : Addr} {kvs : List (Key × PyData)} {k : Str} {n : Nat} (hr : Room n X.A) (ha : Ev X O a ds (· = .own p)) (hb : Ed X O b ds (.str k)) (hm : (p, OV.dk kvs) ∈ O ∨ ∃ o us, (p, OV.dl o us kvs) ∈ O) (hx : valP kvs (.inr k) = some x)
    (hs : NoSl b := by exact fun _ _ => rfl) : Ed X O (.Subscript a b pos) ds x := ed_dget hr ha (k := .inr k) hb hm hx hs
theorem ed_dgetI {p : Addr} {kvs : List (Key × PyData)} {k : Int} {n : Nat} (hr : Room n X.A) (ha : Ev X O a ds (· = .own p)) (hb : Ed X O b ds (.int k)) (hm : (p, OV.dk kvs) ∈ O ∨ ∃ o us, (p, OV.dl o us kvs) ∈ O) (hx : valP kvs (.inl k) = some x)
    (hs : NoSl b := by exact fun _ _ => rfl) : Ed X O (.Subscript a b pos) ds x := ed_dget hr ha (k := .inl k) hb hm hx hs
/-! ### whole numbers of which only a fact is known -/
abbrev EvI (X : Cx) (O : OS) (e : Expr) (ds : AS) (A : Int → Prop) : Prop := Ev X O e ds fun v => ∃ i, v = .d (.int i) ∧ A i
theorem ei_of {i : Int} (h : Ed X O e ds (.int i)) : EvI X O e ds (· = i) := h.imp fun _ q => ⟨i, q, rfl⟩
theorem ei_imp {A B : Int → Prop} (h : EvI X O e ds A) (i : ∀ n, A n → B n) : EvI X O e ds B := h.imp fun _ ⟨n, q, r⟩ => ⟨n, q, i n r⟩
theorem ro_IN {P : Int → Int → Prop} {g : Int → Int → Int} {i j : Int} {C : Int → Prop} (hp : P i j) (hc : C (g i j)) : Ro X.K O (rI P fun i j => .int (g i j)) (.d (.int i)) (.d (.int j)) (fun v => ∃ n, v = .d (.int n) ∧ C n) := fun G H x y w hx hy Q q => by
  cases hx
  cases hy
  exact ⟨i, j, rfl, rfl, hp, q _ _ G H ⟨_, rfl, hc⟩ w Stp.refl (.int _)⟩
theorem ro_IN0 {g : Int → Int → Int} {i j : Int} {C : Int → Prop} (hc : C (g i j)) : Ro X.K O (rI0 fun i j => .int (g i j)) (.d (.int i)) (.d (.int j)) (fun v => ∃ n, v = .d (.int n) ∧ C n) := fun G H x y w hx hy Q q => by
  cases hx
  cases hy
  exact ⟨i, j, rfl, rfl, q _ _ G H ⟨_, rfl, hc⟩ w Stp.refl (.int _)⟩
theorem ei_add {A B C : Int → Prop} (ha : EvI X O a ds A) (hb : EvI X O b ds B) (h : ∀ i j, A i → B j → C (i + j)) : EvI X O (.BinOp a .Add b pos) ds C := ev_op op_add ha hb fun p q hp hq => by
  obtain ⟨i, rfl, hi⟩ := hp
  obtain ⟨j, rfl, hj⟩ := hq
  exact ro_IN0 (h i j hi hj)
theorem ei_mul {A B C : Int → Prop} (ha : EvI X O a ds A) (hb : EvI X O b ds B) (h : ∀ i j, A i → B j → CMulW i j ∧ C (i * j)) : EvI X O (.BinOp a .Mult b pos) ds C := ev_op op_mulW ha hb fun p q hp hq => by
  obtain ⟨i, rfl, hi⟩ := hp
  obtain ⟨j, rfl, hj⟩ := hq
  exact ro_IN (h i j hi hj).1 (h i j hi hj).2
theorem ei_mod {A B C : Int → Prop} (ha : EvI X O a ds A) (hb : EvI X O b ds B) (h : ∀ i j, A i → B j → 0 < j ∧ C (i % j)) : EvI X O (.BinOp a .Mod b pos) ds C := ev_op op_mod ha hb fun p q hp hq => by
  obtain ⟨i, rfl, hi⟩ := hp
  obtain ⟨j, rfl, hj⟩ := hq
  exact ro_IN (h i j hi hj).1 (h i j hi hj).2
/-- an item of a list at a place of which only a fact is known -/
theorem ev_ixLN {xs : List PyData} {B : Int → Prop} {C : AV → Prop} (ha : Ed X O a ds (.list xs)) (hb : EvI X O b ds B) (h : ∀ i, B i → ∃ d, atI xs i = some d ∧ C (.d d)) (hs : PlainIx b := by exact fun _ _ => rfl) : Ev X O (.Subscript a b pos) ds C := ev_ix ix_list ha hb (fun p q hp hq => by
  subst hp
  obtain ⟨i, rfl, hi⟩ := hq
  obtain ⟨d, e1, hd⟩ := h i hi
  exact fun G H u v w hu hv Q q => ro_ixL e1 G H u v w hu hv Q fun c v' G' H' hc => q c v' G' H' (by rw [hc]; exact hd)) hs
end
/-! ### the text -/
def topS (i : Nat) : Stmt := PySem.Challenge.pw_earthends_k16_whole_no_other_leak.main.body.getD i (.Pass ⟨0, 0, 0, 0⟩)
abbrev sts (l : List Str) : PyData := .tuple (l.map PyData.str)
/-- a fraction -/
abbrev fr (q : Rat) : PyData := .tuple [.int q.num, .int (q.den : Nat)]
/-- what the top has left -/
structure Tx (K : PySem.W.Frag) (mg : Str → Option Value) : Prop where
  f_is_whole : At K mg "is_whole" (topS 9)
  f_share_of : At K mg "share_of" (topS 10)
  f_low : At K mg "low" (topS 11)
  f_is_fraction : At K mg "is_fraction" (topS 12)
  f_is_from_zero : At K mg "is_from_zero" (topS 13)
  f_is_above_zero : At K mg "is_above_zero" (topS 14)
  f_check_fraction : At K mg "check_fraction" (topS 15)
  f_add : At K mg "add" (topS 16)
  f_less : At K mg "less" (topS 17)
  f_mul : At K mg "mul" (topS 18)
  f_div : At K mg "div" (topS 19)
  f_half : At K mg "half" (topS 20)
  f_is_less : At K mg "is_less" (topS 21)
  f_whole_root : At K mg "whole_root" (topS 22)
  f_root : At K mg "root" (topS 23)
  f_is_small : At K mg "is_small" (topS 27)
  f_is_length : At K mg "is_length" (topS 28)
  f_is_cable : At K mg "is_cable" (topS 29)
  f_check_cable : At K mg "check_cable" (topS 30)
  f_all_steps : At K mg "all_steps" (topS 31)
  f_all_drag : At K mg "all_drag" (topS 32)
  f_is_place : At K mg "is_place" (topS 33)
  f_check_place : At K mg "check_place" (topS 34)
  f_drag_at : At K mg "drag_at" (topS 35)
  f_place_with : At K mg "place_with" (topS 36)
  f_both_seen : At K mg "both_seen" (topS 38)
  f_join : At K mg "join" (topS 39)
  f_stretch_by : At K mg "stretch_by" (topS 40)
  f_beside : At K mg "beside" (topS 43)
  f_reading : At K mg "reading" (topS 44)
  f_check_word : At K mg "check_word" (topS 48)
  f_check_reading : At K mg "check_reading" (topS 49)
  f_drag_with : At K mg "drag_with" (topS 50)
  f_drag_by : At K mg "drag_by" (topS 51)
  f_by_free_and_earth : At K mg "by_free_and_earth" (topS 52)
  f_by_free_and_far_earth : At K mg "by_free_and_far_earth" (topS 53)
  f_by_earths : At K mg "by_earths" (topS 54)
  f_possible_drags : At K mg "possible_drags" (topS 55)
  f_leak_with : At K mg "leak_with" (topS 56)
  f_one_leak : At K mg "one_leak" (topS 57)
  f__law_cell : At K mg "_law_cell" (topS 59)
  f__law_purse : At K mg "_law_purse" (topS 60)
  f__law_pick : At K mg "_law_pick" (topS 61)
  f__law_low : At K mg "_law_low" (topS 62)
  f__law_plus : At K mg "_law_plus" (topS 63)
  f__law_minus : At K mg "_law_minus" (topS 64)
  f__law_times : At K mg "_law_times" (topS 65)
  f__law_over : At K mg "_law_over" (topS 66)
  f__law_below : At K mg "_law_below" (topS 67)
  f__law_all : At K mg "_law_all" (topS 68)
  f__law_drag_to : At K mg "_law_drag_to" (topS 69)
  f__law_place_at : At K mg "_law_place_at" (topS 70)
  f__law_points : At K mg "_law_points" (topS 71)
  f__law_steps_seen : At K mg "_law_steps_seen" (topS 72)
  f__law_seen : At K mg "_law_seen" (topS 73)
  f__law_cable : At K mg "_law_cable" (topS 74)
  f__law_sixths : At K mg "_law_sixths" (topS 75)
  f__law_leaks : At K mg "_law_leaks" (topS 76)
  f__law_read : At K mg "_law_read" (topS 77)
  f__law_leak : At K mg "_law_leak" (topS 78)
  f__law_places : At K mg "_law_places" (topS 79)
  f__law_alone : At K mg "_law_alone" (topS 80)
  f_law : At K mg "law" (topS 81)
  b_abs : mg "abs" = none
  b_all : mg "all" = none
  b_bool : mg "bool" = none
  b_int : mg "int" = none
  b_isinstance : mg "isinstance" = none
  b_len : mg "len" = none
  b_max : mg "max" = none
  b_min : mg "min" = none
  b_range : mg "range" = none
  b_sorted : mg "sorted" = none
  b_str : mg "str" = none
  b_sum : mg "sum" = none
  b_tuple : mg "tuple" = none
  c_ZERO : Cn K mg "ZERO" (fr 0)
  c_FREE_WORDS : Cn K mg "FREE_WORDS" (sts ["west free", "east free", "west earth", "east earth"])
  c_FREE : Cn K mg "FREE" (sts ["west free", "east free"])
  c_EAST : Cn K mg "EAST" (sts ["east free", "east earth"])
  c_MOST_LENGTHS : Cn K mg "MOST_LENGTHS" (.int 12)
  c_MOST_NUMBER : Cn K mg "MOST_NUMBER" (.int 999)
end Ea

namespace Ea
/-! ### fractions: plain mathematics -/
/-- below a power of two (kept out of the arithmetic's sight) -/
structure Sm (k n : Nat) : Prop where
  lt : n < 2 ^ k
theorem Sm.mono {m n a : Nat} (h : Sm m a) (l : m ≤ n) : Sm n a := ⟨Nat.lt_of_lt_of_le h.lt (Nat.pow_le_pow_right (by decide) l)⟩
theorem Sm.le {m a b : Nat} (h : Sm m b) (l : a ≤ b) : Sm m a := ⟨Nat.lt_of_le_of_lt l h.lt⟩
theorem Sm.mul {m n a b : Nat} (h : Sm m a) (h' : Sm n b) : Sm (m + n) (a * b) := ⟨by
  rw [Nat.pow_add]
  exact Nat.mul_lt_mul'' h.lt h'.lt⟩
theorem Sm.add {m a b : Nat} (h : Sm m a) (h' : Sm m b) : Sm (m + 1) (a + b) := ⟨by
  have h1 := h.lt
  have h2 := h'.lt
  rw [Nat.pow_succ]
  generalize 2 ^ m = z at *
  omega⟩
theorem Sm.muli {m n : Nat} {a b : Int} (h : Sm m a.natAbs) (h' : Sm n b.natAbs) : Sm (m + n) (a * b).natAbs := by
  rw [Int.natAbs_mul]; exact h.mul h'
theorem Sm.addi {m : Nat} {a b : Int} (h : Sm m a.natAbs) (h' : Sm m b.natAbs) : Sm (m + 1) (a + b).natAbs := (h.add h').le (Int.natAbs_add_le a b)
theorem Sm.subi {m : Nat} {a b : Int} (h : Sm m a.natAbs) (h' : Sm m b.natAbs) : Sm (m + 1) (a - b).natAbs := (h.add h').le (Int.natAbs_sub_le a b)
structure Sz (n : Nat) (q : Rat) : Prop where
  num : Sm n q.num.natAbs
  den : Sm n q.den
theorem Sz.mono {m n : Nat} {q : Rat} (h : Sz m q) (l : m ≤ n) : Sz n q := ⟨h.num.mono l, h.den.mono l⟩
theorem Sz.deni {n : Nat} {q : Rat} (h : Sz n q) : Sm n ((q.den : Nat) : Int).natAbs := by rw [Int.natAbs_natCast]; exact h.den
theorem of_nd (p : Rat) : p = (p.num : Rat) / ((p.den : Int) : Rat) := by
  have := Rat.num_divInt_den p
  rw [Rat.divInt_eq_div] at this
  exact this.symm
theorem dzI (p : Rat) : ((p.den : Nat) : Int) ≠ 0 := by
  have := p.den_nz
  omega
theorem dz (p : Rat) : ((p.den : Int) : Rat) ≠ 0 := fun h => dzI p (Rat.intCast_eq_zero_iff.mp h)
theorem nz {p : Rat} (h : p ≠ 0) : p.num ≠ 0 := fun e => h (Rat.num_eq_zero.mp e)
theorem add_low (p q : Rat) : Rat.divInt (p.num * (q.den : Int) + q.num * (p.den : Int)) ((p.den : Int) * (q.den : Int)) = p + q := by
  rw [Rat.divInt_eq_div]
  have h1 := of_nd p
  have h2 := of_nd q
  have h3 := dz p
  have h4 := dz q
  simp only [Rat.intCast_add, Rat.intCast_mul]
  grind
theorem sub_low (p q : Rat) : Rat.divInt (p.num * (q.den : Int) - q.num * (p.den : Int)) ((p.den : Int) * (q.den : Int)) = p - q := by
  rw [Rat.divInt_eq_div]
  have h1 := of_nd p
  have h2 := of_nd q
  have h3 := dz p
  have h4 := dz q
  simp only [Rat.intCast_sub, Rat.intCast_mul]
  grind
theorem mul_low (p q : Rat) : Rat.divInt (p.num * q.num) ((p.den : Int) * (q.den : Int)) = p * q := by
  rw [Rat.divInt_eq_div]
  have h1 := of_nd p
  have h2 := of_nd q
  have h3 := dz p
  have h4 := dz q
  simp only [Rat.intCast_mul]
  grind
theorem div_low (p q : Rat) (hq : q ≠ 0) : Rat.divInt (p.num * (q.den : Int)) ((p.den : Int) * q.num) = p / q := by
  rw [Rat.divInt_eq_div]
  have h1 := of_nd p
  have h2 := of_nd q
  have h3 := dz p
  have h4 := dz q
  have h5 : (q.num : Rat) ≠ 0 := fun e => nz hq (Rat.intCast_eq_zero_iff.mp e)
  simp only [Rat.intCast_mul]
  grind
theorem half_low (p : Rat) : Rat.divInt p.num (2 * (p.den : Int)) = p / 2 := by
  rw [Rat.divInt_eq_div]
  have h1 := of_nd p
  have h3 := dz p
  simp only [Rat.intCast_mul]
  have e : ((2 : Int) : Rat) = 2 := rfl
  rw [e]
  grind
theorem sz_of {n : Nat} {q : Rat} (a b : Int) (hb : b ≠ 0) (h : q * (b : Rat) = (a : Rat)) (ha : Sm n a.natAbs) (hb' : Sm n b.natAbs) : Sz n q := by
  have h1 := of_nd q
  have h2 := dz q
  have e : q.num * b = a * (q.den : Int) := by
    refine Rat.intCast_inj.mp ?_
    rw [Rat.intCast_mul, Rat.intCast_mul]
    grind
  have e2 : q.num.natAbs * b.natAbs = a.natAbs * q.den := by
    have := congrArg Int.natAbs e
    rw [Int.natAbs_mul, Int.natAbs_mul, Int.natAbs_natCast] at this
    exact this
  have hbn : b.natAbs ≠ 0 := by omega
  constructor
  · have d : q.num.natAbs ∣ a.natAbs * q.den := ⟨b.natAbs, e2.symm⟩
    have d2 : q.num.natAbs ∣ a.natAbs := Nat.Coprime.dvd_of_dvd_mul_right q.reduced d
    by_cases ha0 : a.natAbs = 0
    · rw [ha0, Nat.zero_mul] at e2
      rcases Nat.mul_eq_zero.mp e2 with z | z
      · exact ha.le (by omega)
      · exact absurd z hbn
    · exact ha.le (Nat.le_of_dvd (by omega) d2)
  · have d : q.den ∣ q.num.natAbs * b.natAbs := ⟨a.natAbs, by rw [e2, Nat.mul_comm]⟩
    have d2 : q.den ∣ b.natAbs := Nat.Coprime.dvd_of_dvd_mul_left q.reduced.symm d
    exact hb'.le (Nat.le_of_dvd (by omega) d2)
theorem ne_mulI {p q : Rat} : ((p.den : Int) * (q.den : Int)) ≠ 0 := Int.mul_ne_zero (dzI p) (dzI q)
theorem Sz.add {m n : Nat} {p q : Rat} (h : Sz m p) (h' : Sz n q) : Sz (m + n + 1) (p + q) := by
  have h1 := of_nd p
  have h2 := of_nd q
  have h3 := dz p
  have h4 := dz q
  refine sz_of (p.num * (q.den : Int) + q.num * (p.den : Int)) ((p.den : Int) * (q.den : Int)) ne_mulI ?_ ?_ ?_
  · simp only [Rat.intCast_add, Rat.intCast_mul]; grind
  · refine Sm.addi (h.num.muli h'.deni) ?_
    rw [Nat.add_comm]; exact h'.num.muli h.deni
  · exact (h.deni.muli h'.deni).mono (by omega)
theorem Sz.sub {m n : Nat} {p q : Rat} (h : Sz m p) (h' : Sz n q) : Sz (m + n + 1) (p - q) := by
  have h1 := of_nd p
  have h2 := of_nd q
  have h3 := dz p
  have h4 := dz q
  refine sz_of (p.num * (q.den : Int) - q.num * (p.den : Int)) ((p.den : Int) * (q.den : Int)) ne_mulI ?_ ?_ ?_
  · simp only [Rat.intCast_sub, Rat.intCast_mul]; grind
  · refine Sm.subi (h.num.muli h'.deni) ?_
    rw [Nat.add_comm]; exact h'.num.muli h.deni
  · exact (h.deni.muli h'.deni).mono (by omega)
theorem Sz.mul {m n : Nat} {p q : Rat} (h : Sz m p) (h' : Sz n q) : Sz (m + n) (p * q) := by
  have h1 := of_nd p
  have h2 := of_nd q
  have h3 := dz p
  have h4 := dz q
  refine sz_of (p.num * q.num) ((p.den : Int) * (q.den : Int)) ne_mulI ?_ (h.num.muli h'.num) (h.deni.muli h'.deni)
  simp only [Rat.intCast_mul]; grind
theorem Sz.div {m n : Nat} {p q : Rat} (h : Sz m p) (h' : Sz n q) (hq : q ≠ 0) : Sz (m + n) (p / q) := by
  have h1 := of_nd p
  have h2 := of_nd q
  have h3 := dz p
  have h4 := dz q
  have h5 : (q.num : Rat) ≠ 0 := fun e => nz hq (Rat.intCast_eq_zero_iff.mp e)
  refine sz_of (p.num * (q.den : Int)) ((p.den : Int) * q.num) (Int.mul_ne_zero (dzI p) (nz hq)) ?_ (h.num.muli h'.deni) (h.deni.muli h'.num)
  simp only [Rat.intCast_mul]; grind
/-- s f / (f - s) -/
theorem Sz.gap {m n : Nat} {s f : Rat} (h : Sz m s) (h' : Sz n f) (hq : f - s ≠ 0) : Sz (m + n + 1) (s * f / (f - s)) := by
  have h1 := of_nd s
  have h2 := of_nd f
  have h3 := dz s
  have h4 := dz f
  have hb : f.num * (s.den : Int) - s.num * (f.den : Int) ≠ 0 := fun e => hq (by
    have e2 : ((f.num * (s.den : Int) - s.num * (f.den : Int) : Int) : Rat) = 0 := by rw [e]; rfl
    simp only [Rat.intCast_sub, Rat.intCast_mul] at e2
    grind)
  refine sz_of (s.num * f.num) (f.num * (s.den : Int) - s.num * (f.den : Int)) hb ?_ ((h.num.muli h'.num).mono (by omega)) ?_
  · simp only [Rat.intCast_sub, Rat.intCast_mul]; grind
  · refine Sm.subi ?_ (h.num.muli h'.deni)
    rw [Nat.add_comm]; exact h'.num.muli h.deni
/-- g f / (g + f) -/
theorem Sz.par {m n : Nat} {s f : Rat} (h : Sz m s) (h' : Sz n f) (hq : s + f ≠ 0) : Sz (m + n + 1) (s * f / (s + f)) := by
  have h1 := of_nd s
  have h2 := of_nd f
  have h3 := dz s
  have h4 := dz f
  have hb : f.num * (s.den : Int) + s.num * (f.den : Int) ≠ 0 := fun e => hq (by
    have e2 : ((f.num * (s.den : Int) + s.num * (f.den : Int) : Int) : Rat) = 0 := by rw [e]; rfl
    simp only [Rat.intCast_add, Rat.intCast_mul] at e2
    grind)
  refine sz_of (s.num * f.num) (f.num * (s.den : Int) + s.num * (f.den : Int)) hb ?_ ((h.num.muli h'.num).mono (by omega)) ?_
  · simp only [Rat.intCast_add, Rat.intCast_mul]; grind
  · refine Sm.addi ?_ (h.num.muli h'.deni)
    rw [Nat.add_comm]; exact h'.num.muli h.deni
theorem num_pos_iff (q : Rat) : 0 < q.num ↔ 0 < q := by
  have := Rat.lt_iff 0 q
  rw [this]
  show 0 < q.num ↔ (0 : Int) * q.den < q.num * ((1 : Nat) : Int)
  omega
/-- a whole number as a fraction -/
theorem sz_nat {n k : Nat} (h : Sm n k) (h1 : Sm n 1) : Sz n ((k : Nat) : Rat) := ⟨by rw [Rat.num_natCast, Int.natAbs_natCast]; exact h, by rw [Rat.den_natCast]; exact h1⟩
/-! ### roots -/
theorem sqrt_uniq {j k : Nat} (h : j * j = k * k) : j = k := by
  rcases Nat.lt_trichotomy j k with l | l | l
  · have := Nat.mul_lt_mul'' l l; omega
  · exact l
  · have := Nat.mul_lt_mul'' l l; omega
/-- the fraction from 0 on whose square is p -/
def IsRoot (p r : Rat) : Prop := 0 ≤ r ∧ r * r = p
open Classical in
noncomputable def sqR (p : Rat) : Option Rat := if h : ∃ r, IsRoot p r then some (Classical.choose h) else none
theorem root_uniq {p r s : Rat} (h : IsRoot p r) (h' : IsRoot p s) : r = s := by
  obtain ⟨h1, h2⟩ := h
  obtain ⟨h3, h4⟩ := h'
  have e : (r - s) * (r + s) = 0 := by grind
  rcases Rat.mul_eq_zero.mp e with z | z
  · grind
  · have : r = 0 := by grind
    grind
theorem sqR_some {p r : Rat} (h : IsRoot p r) : sqR p = some r := by
  unfold sqR
  have hx : ∃ r, IsRoot p r := ⟨r, h⟩
  rw [dif_pos hx, root_uniq (Classical.choose_spec hx) h]
theorem sqR_none {p : Rat} (h : ∀ r, ¬ IsRoot p r) : sqR p = none := by
  unfold sqR
  rw [dif_neg (fun ⟨r, q⟩ => h r q)]
theorem sqR_is {p r : Rat} (h : sqR p = some r) : IsRoot p r := by
  unfold sqR at h
  split at h
  · rename_i hx
    cases h
    exact Classical.choose_spec hx
  · cases h
theorem sqR_no {p : Rat} (h : sqR p = none) (r : Rat) : ¬ IsRoot p r := fun q => by
  rw [sqR_some q] at h; cases h
/-- the root's numbers are the roots of the numbers -/
theorem root_nd {p r : Rat} (h : IsRoot p r) : ((r.num.toNat * r.num.toNat : Nat) : Int) = p.num ∧ r.den * r.den = p.den := by
  obtain ⟨h0, h1⟩ := h
  have hn : 0 ≤ r.num := Rat.num_nonneg.mpr h0
  have cop : Nat.Coprime (r.num.natAbs * r.num.natAbs) (r.den * r.den) := Nat.Coprime.mul_left (Nat.Coprime.mul_right r.reduced r.reduced) (Nat.Coprime.mul_right r.reduced r.reduced)
  have e : p = mkRat (r.num * r.num) (r.den * r.den) := by
    rw [← h1]
    exact Rat.mul_def r r ▸ by rw [Rat.normalize_eq_mkRat]
  have hne : r.den * r.den ≠ 0 := Nat.mul_ne_zero r.den_nz r.den_nz
  rw [← Rat.normalize_eq_mkRat hne, Rat.normalize_eq] at e
  have g1 : Nat.gcd (r.num * r.num).natAbs (r.den * r.den) = 1 := by rw [Int.natAbs_mul]; exact cop
  constructor
  · rw [e]
    show _ = (r.num * r.num) / ((Nat.gcd (r.num * r.num).natAbs (r.den * r.den) : Nat) : Int)
    rw [g1]
    have : ((r.num.toNat : Nat) : Int) = r.num := Int.toNat_of_nonneg hn
    rw [Int.natCast_mul, this]
    simp
  · rw [e]
    show _ = (r.den * r.den) / Nat.gcd (r.num * r.num).natAbs (r.den * r.den)
    rw [g1, Nat.div_one]
/-- .. and back -/
theorem root_mk {p : Rat} {a b : Nat} (ha : ((a * a : Nat) : Int) = p.num) (hb : b * b = p.den) : ∃ r, IsRoot p r ∧ r.num = (a : Int) ∧ r.den = b := by
  have hb0 : b ≠ 0 := fun z => p.den_nz (by rw [← hb, z])
  have cop : Nat.Coprime a b := by
    have q := p.reduced
    rw [← ha, ← hb, Int.natAbs_natCast] at q
    exact Nat.Coprime.coprime_mul_left (Nat.Coprime.coprime_mul_left_right q)
  refine ⟨⟨a, b, hb0, by rw [Int.natAbs_natCast]; exact cop⟩, ⟨?_, ?_⟩, rfl, rfl⟩
  · exact Rat.num_nonneg.mp (show (0 : Int) ≤ (a : Int) by omega)
  · have h1 := of_nd p
    have h2 := of_nd (⟨a, b, hb0, by rw [Int.natAbs_natCast]; exact cop⟩ : Rat)
    have h3 : (((b : Nat) : Int) : Rat) ≠ 0 := fun e => hb0 (by have := Rat.intCast_eq_zero_iff.mp e; omega)
    have e1 : (p.num : Rat) = (((a : Nat) : Int) : Rat) * (((a : Nat) : Int) : Rat) := by rw [← Rat.intCast_mul, ← Int.natCast_mul, ha]
    have e2 : ((p.den : Int) : Rat) = (((b : Nat) : Int) : Rat) * (((b : Nat) : Int) : Rat) := by rw [← Rat.intCast_mul, ← Int.natCast_mul, hb]
    rw [h1, e1, e2, h2]
    show (((a : Nat) : Int) : Rat) / (((b : Nat) : Int) : Rat) * ((((a : Nat) : Int) : Rat) / (((b : Nat) : Int) : Rat)) = _
    grind
end Ea

namespace Ea
open PySem PySem.Spec PyProof.Rows L2
theorem bt_tuple : bootBuiltins "tuple" = some (.type "tuple") := by decide +kernel
theorem bt_int : bootBuiltins "int" = some (.type "int") := by decide +kernel
theorem bt_bool : bootBuiltins "bool" = some (.type "bool") := by decide +kernel
theorem bt_str : bootBuiltins "str" = some (.type "str") := by decide +kernel
theorem k_tuple_tuple : kitB "tuple" "tuple" = some true := by decide +kernel
theorem k_int_int : kitB "int" "int" = some true := by decide +kernel
theorem k_int_bool : kitB "int" "bool" = some false := by decide +kernel
theorem k_str_str : kitB "str" "str" = some true := by decide +kernel

theorem ed_isi_int_int {X : Cx} {O : OS} {ds : AS} {e : Expr} {pos p p2 : Pos} {i : Int} (hm : X.mg "isinstance" = none) (hT : X.mg "int" = none) (ha : Ed X O e ds (.int i)) (hgT : Gl X "int" := by rfl) (hg : Gl X "isinstance" := by rfl)
    (he : starEach (e :: [.Name "int" p2]) X.env = (false, eval e X.env) :: starEach [.Name "int" p2] X.env := by rfl) (he2 : starEach [.Name "int" p2] X.env = (false, eval (.Name "int" p2) X.env) :: starEach [] X.env := by rfl) (hpl : (backTo pos (starEach [.Name "int" p2] X.env)).any (·.1) = false := by rfl) : Ed X O (.Call (.Name "isinstance" p) [e, .Name "int" p2] [] pos) ds (.bool true) :=
  ed_isi hm hT bt_int ha k_int_int hgT (by decide) (by decide) hg he he2 hpl
theorem ed_isi_int_bool {X : Cx} {O : OS} {ds : AS} {e : Expr} {pos p p2 : Pos} {i : Int} (hm : X.mg "isinstance" = none) (hT : X.mg "bool" = none) (ha : Ed X O e ds (.int i)) (hgT : Gl X "bool" := by rfl) (hg : Gl X "isinstance" := by rfl)
    (he : starEach (e :: [.Name "bool" p2]) X.env = (false, eval e X.env) :: starEach [.Name "bool" p2] X.env := by rfl) (he2 : starEach [.Name "bool" p2] X.env = (false, eval (.Name "bool" p2) X.env) :: starEach [] X.env := by rfl) (hpl : (backTo pos (starEach [.Name "bool" p2] X.env)).any (·.1) = false := by rfl) : Ed X O (.Call (.Name "isinstance" p) [e, .Name "bool" p2] [] pos) ds (.bool false) :=
  ed_isi hm hT bt_bool ha k_int_bool hgT (by decide) (by decide) hg he he2 hpl
theorem ed_isi_tuple_tuple {X : Cx} {O : OS} {ds : AS} {e : Expr} {pos p p2 : Pos} {xs : List PyData} (hm : X.mg "isinstance" = none) (hT : X.mg "tuple" = none) (ha : Ed X O e ds (.tuple xs)) (hgT : Gl X "tuple" := by rfl) (hg : Gl X "isinstance" := by rfl)
    (he : starEach (e :: [.Name "tuple" p2]) X.env = (false, eval e X.env) :: starEach [.Name "tuple" p2] X.env := by rfl) (he2 : starEach [.Name "tuple" p2] X.env = (false, eval (.Name "tuple" p2) X.env) :: starEach [] X.env := by rfl) (hpl : (backTo pos (starEach [.Name "tuple" p2] X.env)).any (·.1) = false := by rfl) : Ed X O (.Call (.Name "isinstance" p) [e, .Name "tuple" p2] [] pos) ds (.bool true) :=
  ed_isi hm hT bt_tuple ha k_tuple_tuple hgT (by decide) (by decide) hg he he2 hpl
theorem ed_isi_str_str {X : Cx} {O : OS} {ds : AS} {e : Expr} {pos p p2 : Pos} {i : Str} (hm : X.mg "isinstance" = none) (hT : X.mg "str" = none) (ha : Ed X O e ds (.str i)) (hgT : Gl X "str" := by rfl) (hg : Gl X "isinstance" := by rfl)
    (he : starEach (e :: [.Name "str" p2]) X.env = (false, eval e X.env) :: starEach [.Name "str" p2] X.env := by rfl) (he2 : starEach [.Name "str" p2] X.env = (false, eval (.Name "str" p2) X.env) :: starEach [] X.env := by rfl) (hpl : (backTo pos (starEach [.Name "str" p2] X.env)).any (·.1) = false := by rfl) : Ed X O (.Call (.Name "isinstance" p) [e, .Name "str" p2] [] pos) ds (.bool true) :=
  ed_isi hm hT bt_str ha k_str_str hgT (by decide) (by decide) hg he he2 hpl
/-! ### fractions: what the functions are asked -/
def Rwhole : RF := fun O as B => ∃ i : Int, O = [] ∧ as = [.d (.int i)] ∧ B = (· = .bool true)
def Rshare : RF := fun O as B => ∃ m n : Nat, O = [] ∧ as = [.d (.int (m : Nat)), .d (.int (n : Nat))] ∧ B = (· = .int (Nat.gcd m n : Nat))
def Rlow : RF := fun O as B => ∃ t b : Int, O = [] ∧ as = [.d (.int t), .d (.int b)] ∧ b ≠ 0 ∧ Sm 9000 b.natAbs ∧ B = (· = fr (Rat.divInt t b))
def Rfrac : RF := fun O as B => ∃ q : Rat, O = [] ∧ as = [.d (fr q)] ∧ B = (· = .bool true)
def Rfrom0 : RF := fun O as B => ∃ q : Rat, O = [] ∧ as = [.d (fr q)] ∧ B = (· = .bool (decide (0 ≤ q)))
def Rabove0 : RF := fun O as B => ∃ q : Rat, O = [] ∧ as = [.d (fr q)] ∧ B = (· = .bool (decide (0 < q)))
def Rchk1 : RF := fun O as B => ∃ q : Rat, O = [] ∧ as = [.d (fr q)] ∧ B = (· = .none)

abbrev L4 : Nat := 4400
def Rop2 (f : Rat → Rat → Rat) : RF := fun O as B => ∃ p q : Rat, O = [] ∧ as = [.d (fr p), .d (fr q)] ∧ Sz L4 p ∧ Sz L4 q ∧ B = (· = fr (f p q))
def Rdiv : RF := fun O as B => ∃ p q : Rat, O = [] ∧ as = [.d (fr p), .d (fr q)] ∧ Sz L4 p ∧ Sz L4 q ∧ q ≠ 0 ∧ B = (· = fr (p / q))
def Rhalf : RF := fun O as B => ∃ p : Rat, O = [] ∧ as = [.d (fr p)] ∧ Sz L4 p ∧ B = (· = fr (p / 2))
def Rless : RF := fun O as B => ∃ p q : Rat, O = [] ∧ as = [.d (fr p), .d (fr q)] ∧ Sz L4 p ∧ Sz L4 q ∧ B = (· = .bool (decide (p < q)))
theorem r_add {p q : Rat} (h : Sz L4 p) (h' : Sz L4 q) : Rop2 (· + ·) [] [.d (fr p), .d (fr q)] (· = fr (p + q)) := ⟨p, q, rfl, rfl, h, h', rfl⟩
theorem r_less {p q : Rat} (h : Sz L4 p) (h' : Sz L4 q) : Rop2 (· - ·) [] [.d (fr p), .d (fr q)] (· = fr (p - q)) := ⟨p, q, rfl, rfl, h, h', rfl⟩
theorem r_mul {p q : Rat} (h : Sz L4 p) (h' : Sz L4 q) : Rop2 (· * ·) [] [.d (fr p), .d (fr q)] (· = fr (p * q)) := ⟨p, q, rfl, rfl, h, h', rfl⟩
theorem r_div {p q : Rat} (h : Sz L4 p) (h' : Sz L4 q) (hq : q ≠ 0) : Rdiv [] [.d (fr p), .d (fr q)] (· = fr (p / q)) := ⟨p, q, rfl, rfl, h, h', hq, rfl⟩
theorem r_half {p : Rat} (h : Sz L4 p) : Rhalf [] [.d (fr p)] (· = fr (p / 2)) := ⟨p, rfl, rfl, h, rfl⟩
theorem r_is_less {p q : Rat} (h : Sz L4 p) (h' : Sz L4 q) : Rless [] [.d (fr p), .d (fr q)] (· = .bool (decide (p < q))) := ⟨p, q, rfl, rfl, h, h', rfl⟩
theorem cm {m n : Nat} {i j : Int} (h : Sm m i.natAbs) (h' : Sm n j.natAbs) (h0 : 0 < m := by decide) (h1 : 0 < n := by decide) (h2 : m + n ≤ 1000000 := by decide) : CMulW i j := wide_mul h.lt h'.lt h0 h1 h2
theorem sm2 : Sm 4 ((2 : Int).natAbs) := ⟨by decide⟩
theorem r_is_whole {i : Int} : Rwhole [] [.d (.int i)] (· = .bool true) := ⟨i, rfl, rfl, rfl⟩
theorem r_share_of {m n : Nat} : Rshare [] [.d (.int (m : Nat)), .d (.int (n : Nat))] (· = .int (Nat.gcd m n : Nat)) := ⟨m, n, rfl, rfl, rfl⟩
theorem r_low {t b : Int} (hb : b ≠ 0) (hz : Sm 9000 b.natAbs) : Rlow [] [.d (.int t), .d (.int b)] (· = fr (Rat.divInt t b)) := ⟨t, b, rfl, rfl, hb, hz, rfl⟩
theorem r_is_fraction {q : Rat} : Rfrac [] [.d (fr q)] (· = .bool true) := ⟨q, rfl, rfl, rfl⟩
theorem r_is_from_zero {q : Rat} : Rfrom0 [] [.d (fr q)] (· = .bool (decide (0 ≤ q))) := ⟨q, rfl, rfl, rfl⟩
theorem r_is_above_zero {q : Rat} : Rabove0 [] [.d (fr q)] (· = .bool (decide (0 < q))) := ⟨q, rfl, rfl, rfl⟩
theorem r_check_fraction {q : Rat} : Rchk1 [] [.d (fr q)] (· = .none) := ⟨q, rfl, rfl, rfl⟩
theorem low_eq {t : Int} {n : Nat} (hn : n ≠ 0) : (Rat.divInt t (n : Nat)).num = t / ((Nat.gcd t.natAbs n : Nat) : Int) ∧ ((Rat.divInt t (n : Nat)).den : Int) = (n : Int) / ((Nat.gcd t.natAbs n : Nat) : Int) := by
  have e : Rat.divInt t (n : Int) = mkRat t n := rfl
  rw [e, ← Rat.normalize_eq_mkRat hn, Rat.normalize_eq]
  exact ⟨rfl, by rw [Int.natCast_ediv]⟩

theorem neg_divInt_neg (t b : Int) : Rat.divInt (-t) (-b) = Rat.divInt t b := by
  rw [Rat.divInt_neg', Int.neg_neg]
section
variable {P : Program} {w : World} {K : PySem.W.Frag} {mg : Str → Option Value} {base : Heap}
theorem d_is_whole (T : Tx K mg) : Df P w K mg base 1 "is_whole" Rwhole := df_mk (N := ["x"]) (ps := ["x"]) T.f_is_whole ⟨rfl, rfl, rfl, by decide +kernel, rfl, by decide +kernel, by decide +kernel⟩ (fun _ _ _ _ _ _ us hl => match us, hl with | [_], _ => rfl) (fun O as B h => by obtain ⟨i, _, rfl, _⟩ := h; rfl) fun f cdv A outer s H E hr O as B h => by
  obtain ⟨i, rfl, rfl, rfl⟩ := h
  exact rn_ret (ed_and (ed_isi_int_int T.b_isinstance T.b_int (ev_v 0)) fun _ => (ed_one (ed_not (ed_isi_int_bool T.b_isinstance T.b_bool (ev_v 0))))) fun a q => ⟨rfl, _, q, by rfl⟩
theorem d_share_of (T : Tx K mg) : Df P w K mg base 1 "share_of" Rshare := df_mk (N := ["one", "other"]) (ps := ["one", "other"]) T.f_share_of ⟨rfl, rfl, rfl, by decide +kernel, rfl, by decide +kernel, by decide +kernel⟩ (fun _ _ _ _ _ _ us hl => match us, hl with | [_, _], _ => rfl) (fun O as B h => by obtain ⟨m, n, _, rfl, _⟩ := h; rfl) fun f cdv A outer s H E hr O as B h => by
  obtain ⟨m0, n0, rfl, rfl, rfl⟩ := h
  have nd : (["one", "other"] : List Str).Nodup := by decide +kernel
  refine rn_while (fun ds => ∃ m n : Nat, ds = [some (.d (.int m)), some (.d (.int n))] ∧ Nat.gcd m n = Nat.gcd m0 n0) (fun ds => match ds with
    | [_, some (.d (.int n))] => n.toNat
    | _ => 0) PassesOwn.never ⟨m0, n0, rfl, rfl⟩ fun ds' h => ?_
  obtain ⟨m, n, rfl, hg⟩ := h
  refine ⟨_, (et_gt (ev_v 1) ed_int), fun hk => ?_, fun hk => ?_⟩
  · have hn : 0 < (n : Int) := of_decide_eq_true hk
    refine rn_par 0 1 (ea_cons (ev_v 1) (ea_cons (ed_mod (ev_v 0) (ev_v 1) ?_) ea_nil)) (rn_nil ?_) rfl nd
    · exact hn
    · refine ⟨rfl, ⟨n, m % n, by rw [Int.natCast_emod]; rfl, ?_⟩, ?_⟩
      · rw [← hg, Nat.gcd_comm m n, Nat.gcd_rec n m, Nat.gcd_comm]
      · show ((m : Int) % (n : Int)).toNat < (n : Int).toNat
        have := Nat.mod_lt m (show 0 < n by omega)
        omega
  · have hn : ¬ 0 < (n : Int) := of_decide_eq_false hk
    have e : n = 0 := by omega
    subst e
    rw [Nat.gcd_zero_right] at hg
    exact rn_ret (ev_v 0) fun a q => ⟨rfl, _, q, by rw [hg]⟩
theorem d_low (T : Tx K mg) : Df P w K mg base 2 "low" Rlow := df_mk (N := ["top", "bottom", "share"]) (ps := ["top", "bottom"]) T.f_low ⟨rfl, rfl, rfl, by decide +kernel, rfl, by decide +kernel, by decide +kernel⟩ (fun _ _ _ _ _ _ us hl => match us, hl with | [_, _], _ => rfl) (fun O as B h => by obtain ⟨t, b, _, rfl, _⟩ := h; rfl) fun f cdv A outer s H E hr O as B h => by
  obtain ⟨t, b, rfl, rfl, hb, hz, rfl⟩ := h
  have nd : (["top", "bottom", "share"] : List Str).Nodup := by decide +kernel
  have key : ∀ (t' : Int) (n : Nat), n ≠ 0 → Sm 9000 n → Rat.divInt t' n = Rat.divInt t b → Rn (Bx P w K mg base ["top", "bottom", "share"] "low" (topS 11) f cdv A outer s H E) [] ((defBody (topS 11)).drop 1) [some (.d (.int t')), some (.d (.int n)), none] (fun O' _ => O' = [] ∧ PyData.none = fr (Rat.divInt t b)) (fun O' a => O' = [] ∧ ∃ d, a = .d d ∧ d = fr (Rat.divInt t b)) := fun t' n h1 h2 h3 => by
    obtain ⟨e1, e2⟩ := low_eq (t := t') h1
    have gp : 0 < Nat.gcd t'.natAbs n := Nat.gcd_pos_of_pos_right _ (by omega)
    have gl : Nat.gcd t'.natAbs n < 2 ^ 9000 := Nat.lt_of_le_of_lt (Nat.gcd_le_right _ (by omega)) h2.lt
    have gd : CDivW t' (Nat.gcd t'.natAbs n : Nat) ∧ CDivW n (Nat.gcd t'.natAbs n : Nat) := ⟨wide_div (Int.natCast_pos.mpr gp) (by rw [Int.natAbs_natCast]; exact gl) (by decide) (by decide), wide_div (Int.natCast_pos.mpr gp) (by rw [Int.natAbs_natCast]; exact gl) (by decide) (by decide)⟩
    refine rn_setd 2 (ed_call (d_share_of T) hr (by decide) (ea_cons (ed_abs T.b_abs (ev_v 0)) (ea_cons (ev_v 1) ea_nil)) (r_share_of)) ?_ nd
    refine rn_ret (ed_tup2 (ed_fdiv (ev_v 0) (ev_v 2) ?_) (ed_fdiv (ev_v 1) (ev_v 2) ?_)) fun a q => ⟨rfl, _, q, ?_⟩
    · exact gd.1
    · exact gd.2
    · rw [← h3]
      show PyData.tuple [.int _, .int _] = PyData.tuple [.int _, .int _]
      rw [e1, e2]
  by_cases h0 : b < 0
  · obtain ⟨n, rfl⟩ : ∃ n : Nat, b = -(n : Int) := ⟨(-b).toNat, by omega⟩
    have hn : n ≠ 0 := by omega
    have e1 : (0 : Int) - t = -t := by omega
    have e2 : (0 : Int) - -(n : Int) = (n : Nat) := by omega
    have hz' : Sm 9000 n := by rw [Int.natAbs_neg, Int.natAbs_natCast] at hz; exact hz
    refine rn_ifT (EvT.to (et_lt (ev_v 1) ed_int) (decide_eq_true h0)) (rn_thru (ds' := [some (.d (.int (-t))), some (.d (.int (n : Nat))), none]) (rn_par 0 1 (ea_cons (ed_sub ed_int (ev_v 0)) (ea_cons (ed_sub ed_int (ev_v 1)) ea_nil)) (rn_nil ⟨rfl, ?_⟩) rfl nd) (key (-t) n hn hz' ?_))
    · rw [e1, e2]; rfl
    · rw [show (n : Int) = - -(n : Int) by omega, neg_divInt_neg]
      rw [Int.neg_neg]
  · obtain ⟨n, rfl⟩ : ∃ n : Nat, b = (n : Int) := ⟨b.toNat, by omega⟩
    exact rn_ifF (EvT.to (et_lt (ev_v 1) ed_int) (decide_eq_false h0)) (key t n (by omega) (by rw [Int.natAbs_natCast] at hz; exact hz) rfl)
theorem d_is_fraction (T : Tx K mg) : Df P w K mg base 2 "is_fraction" Rfrac := df_mk (N := ["x"]) (ps := ["x"]) T.f_is_fraction ⟨rfl, rfl, rfl, by decide +kernel, rfl, by decide +kernel, by decide +kernel⟩ (fun _ _ _ _ _ _ us hl => match us, hl with | [_], _ => rfl) (fun O as B h => by obtain ⟨q, _, rfl, _⟩ := h; rfl) fun f cdv A outer s H E hr O as B h => by
  obtain ⟨q, rfl, rfl, rfl⟩ := h
  refine rn_ifF (EvT.to (et_w (ew_or (et_not (et_val (ed_isi_tuple_tuple T.b_isinstance T.b_tuple (ev_v 0)))) fun _ => (ew_or (et_neI (ed_len T.b_len (ev_v 0) (.inr rfl)) ed_int) fun _ => (ew_or (et_not (et_val (ed_call (d_is_whole T) hr (by decide) (ea_cons (ed_ixT (ev_v 0) ed_int) ea_nil) (r_is_whole)))) fun _ => (ew_or1 (et_not (et_val (ed_call (d_is_whole T) hr (by decide) (ea_cons (ed_ixT (ev_v 0) ed_int) ea_nil) (r_is_whole))))))))) (by rfl)) (rn_ret (ed_and (ed_gt (ed_ixT (ev_v 0) ed_int) ed_int) fun _ => (ed_one (ed_eqI (ed_call (d_share_of T) hr (by decide) (ea_cons (ed_abs T.b_abs (ed_ixT (ev_v 0) ed_int)) (ea_cons (ed_ixT (ev_v 0) ed_int) ea_nil)) (r_share_of)) ed_int))) fun a z => ⟨rfl, _, z, ?_⟩)
  have e1 : decide (0 < ((q.den : Nat) : Int)) = true := decide_eq_true (by have := q.den_pos; omega)
  have e2 : decide (((Nat.gcd q.num.natAbs q.den : Nat) : Int) = 1) = true := decide_eq_true (by have : Nat.gcd q.num.natAbs q.den = 1 := q.reduced; omega)
  rw [e1, e2]; rfl
theorem d_is_from_zero (T : Tx K mg) : Df P w K mg base 3 "is_from_zero" Rfrom0 := df_mk (N := ["x"]) (ps := ["x"]) T.f_is_from_zero ⟨rfl, rfl, rfl, by decide +kernel, rfl, by decide +kernel, by decide +kernel⟩ (fun _ _ _ _ _ _ us hl => match us, hl with | [_], _ => rfl) (fun O as B h => by obtain ⟨q, _, rfl, _⟩ := h; rfl) fun f cdv A outer s H E hr O as B h => by
  obtain ⟨q, rfl, rfl, rfl⟩ := h
  refine rn_ret (ed_and (ed_call (d_is_fraction T) hr (by decide) (ea_cons (ev_v 0) ea_nil) (r_is_fraction)) fun _ => (ed_one (ed_ge (ed_ixT (ev_v 0) ed_int) ed_int))) fun a z => ⟨rfl, _, z, ?_⟩
  rw [Bool.true_and, decide_eq_decide.mpr Rat.num_nonneg]
theorem d_is_above_zero (T : Tx K mg) : Df P w K mg base 3 "is_above_zero" Rabove0 := df_mk (N := ["x"]) (ps := ["x"]) T.f_is_above_zero ⟨rfl, rfl, rfl, by decide +kernel, rfl, by decide +kernel, by decide +kernel⟩ (fun _ _ _ _ _ _ us hl => match us, hl with | [_], _ => rfl) (fun O as B h => by obtain ⟨q, _, rfl, _⟩ := h; rfl) fun f cdv A outer s H E hr O as B h => by
  obtain ⟨q, rfl, rfl, rfl⟩ := h
  refine rn_ret (ed_and (ed_call (d_is_fraction T) hr (by decide) (ea_cons (ev_v 0) ea_nil) (r_is_fraction)) fun _ => (ed_one (ed_gt (ed_ixT (ev_v 0) ed_int) ed_int))) fun a z => ⟨rfl, _, z, ?_⟩
  rw [Bool.true_and, decide_eq_decide.mpr (num_pos_iff q)]
theorem d_check_fraction (T : Tx K mg) : Df P w K mg base 3 "check_fraction" Rchk1 := df_mk (N := ["x"]) (ps := ["x"]) T.f_check_fraction ⟨rfl, rfl, rfl, by decide +kernel, rfl, by decide +kernel, by decide +kernel⟩ (fun _ _ _ _ _ _ us hl => match us, hl with | [_], _ => rfl) (fun O as B h => by obtain ⟨q, _, rfl, _⟩ := h; rfl) fun f cdv A outer s H E hr O as B h => by
  obtain ⟨q, rfl, rfl, rfl⟩ := h
  exact rn_ifF (EvT.to (et_not (et_val (ed_call (d_is_fraction T) hr (by decide) (ea_cons (ev_v 0) ea_nil) (r_is_fraction)))) (by rfl)) (rn_nil ⟨rfl, rfl⟩)
theorem d_add (T : Tx K mg) : Df P w K mg base 3 "add" (Rop2 (· + ·)) := df_mk (N := ["a", "b"]) (ps := ["a", "b"]) T.f_add ⟨rfl, rfl, rfl, by decide +kernel, rfl, by decide +kernel, by decide +kernel⟩ (fun _ _ _ _ _ _ us hl => match us, hl with | [_, _], _ => rfl) (fun O as B h => by obtain ⟨p, q, _, rfl, _⟩ := h; rfl) fun f cdv A outer s H E hr O as B h => by
  obtain ⟨p, q, rfl, rfl, hp, hq, rfl⟩ := h
  refine rn_ret (ed_call (d_low T) hr (by decide) (ea_cons (ed_add (ed_mul (ed_ixT (ev_v 0) ed_int) (ed_ixT (ev_v 1) ed_int) ?_) (ed_mul (ed_ixT (ev_v 1) ed_int) (ed_ixT (ev_v 0) ed_int) ?_)) (ea_cons (ed_mul (ed_ixT (ev_v 0) ed_int) (ed_ixT (ev_v 1) ed_int) ?_) ea_nil)) (r_low ?_ ?_)) fun a z => ⟨rfl, _, z, ?_⟩
  · exact cm hp.num hq.deni
  · exact cm hq.num hp.deni
  · exact cm hp.deni hq.deni
  · exact ne_mulI
  · exact (hp.deni.muli hq.deni).mono (by decide)
  · rw [add_low]
theorem d_less (T : Tx K mg) : Df P w K mg base 3 "less" (Rop2 (· - ·)) := df_mk (N := ["a", "b"]) (ps := ["a", "b"]) T.f_less ⟨rfl, rfl, rfl, by decide +kernel, rfl, by decide +kernel, by decide +kernel⟩ (fun _ _ _ _ _ _ us hl => match us, hl with | [_, _], _ => rfl) (fun O as B h => by obtain ⟨p, q, _, rfl, _⟩ := h; rfl) fun f cdv A outer s H E hr O as B h => by
  obtain ⟨p, q, rfl, rfl, hp, hq, rfl⟩ := h
  refine rn_ret (ed_call (d_low T) hr (by decide) (ea_cons (ed_sub (ed_mul (ed_ixT (ev_v 0) ed_int) (ed_ixT (ev_v 1) ed_int) ?_) (ed_mul (ed_ixT (ev_v 1) ed_int) (ed_ixT (ev_v 0) ed_int) ?_)) (ea_cons (ed_mul (ed_ixT (ev_v 0) ed_int) (ed_ixT (ev_v 1) ed_int) ?_) ea_nil)) (r_low ?_ ?_)) fun a z => ⟨rfl, _, z, ?_⟩
  · exact cm hp.num hq.deni
  · exact cm hq.num hp.deni
  · exact cm hp.deni hq.deni
  · exact ne_mulI
  · exact (hp.deni.muli hq.deni).mono (by decide)
  · rw [sub_low]
theorem d_mul (T : Tx K mg) : Df P w K mg base 3 "mul" (Rop2 (· * ·)) := df_mk (N := ["a", "b"]) (ps := ["a", "b"]) T.f_mul ⟨rfl, rfl, rfl, by decide +kernel, rfl, by decide +kernel, by decide +kernel⟩ (fun _ _ _ _ _ _ us hl => match us, hl with | [_, _], _ => rfl) (fun O as B h => by obtain ⟨p, q, _, rfl, _⟩ := h; rfl) fun f cdv A outer s H E hr O as B h => by
  obtain ⟨p, q, rfl, rfl, hp, hq, rfl⟩ := h
  refine rn_ret (ed_call (d_low T) hr (by decide) (ea_cons (ed_mul (ed_ixT (ev_v 0) ed_int) (ed_ixT (ev_v 1) ed_int) ?_) (ea_cons (ed_mul (ed_ixT (ev_v 0) ed_int) (ed_ixT (ev_v 1) ed_int) ?_) ea_nil)) (r_low ?_ ?_)) fun a z => ⟨rfl, _, z, ?_⟩
  · exact cm hp.num hq.num
  · exact cm hp.deni hq.deni
  · exact ne_mulI
  · exact (hp.deni.muli hq.deni).mono (by decide)
  · rw [mul_low]
theorem d_div (T : Tx K mg) : Df P w K mg base 3 "div" Rdiv := df_mk (N := ["a", "b"]) (ps := ["a", "b"]) T.f_div ⟨rfl, rfl, rfl, by decide +kernel, rfl, by decide +kernel, by decide +kernel⟩ (fun _ _ _ _ _ _ us hl => match us, hl with | [_, _], _ => rfl) (fun O as B h => by obtain ⟨p, q, _, rfl, _⟩ := h; rfl) fun f cdv A outer s H E hr O as B h => by
  obtain ⟨p, q, rfl, rfl, hp, hq, hz, rfl⟩ := h
  refine rn_ret (ed_call (d_low T) hr (by decide) (ea_cons (ed_mul (ed_ixT (ev_v 0) ed_int) (ed_ixT (ev_v 1) ed_int) ?_) (ea_cons (ed_mul (ed_ixT (ev_v 0) ed_int) (ed_ixT (ev_v 1) ed_int) ?_) ea_nil)) (r_low ?_ ?_)) fun a z => ⟨rfl, _, z, ?_⟩
  · exact cm hp.num hq.deni
  · exact cm hp.deni hq.num
  · exact Int.mul_ne_zero (dzI p) (nz hz)
  · exact (hp.deni.muli hq.num).mono (by decide)
  · rw [div_low p q hz]
theorem d_half (T : Tx K mg) : Df P w K mg base 3 "half" Rhalf := df_mk (N := ["a"]) (ps := ["a"]) T.f_half ⟨rfl, rfl, rfl, by decide +kernel, rfl, by decide +kernel, by decide +kernel⟩ (fun _ _ _ _ _ _ us hl => match us, hl with | [_], _ => rfl) (fun O as B h => by obtain ⟨p, _, rfl, _⟩ := h; rfl) fun f cdv A outer s H E hr O as B h => by
  obtain ⟨p, rfl, rfl, hp, rfl⟩ := h
  refine rn_ret (ed_call (d_low T) hr (by decide) (ea_cons (ed_ixT (ev_v 0) ed_int) (ea_cons (ed_mul ed_int (ed_ixT (ev_v 0) ed_int) ?_) ea_nil)) (r_low ?_ ?_)) fun a z => ⟨rfl, _, z, ?_⟩
  · exact cm sm2 hp.deni
  · exact Int.mul_ne_zero (by decide) (dzI p)
  · exact (sm2.muli hp.deni).mono (by decide)
  · rw [half_low]
theorem d_is_less (T : Tx K mg) : Df P w K mg base 3 "is_less" Rless := df_mk (N := ["a", "b"]) (ps := ["a", "b"]) T.f_is_less ⟨rfl, rfl, rfl, by decide +kernel, rfl, by decide +kernel, by decide +kernel⟩ (fun _ _ _ _ _ _ us hl => match us, hl with | [_, _], _ => rfl) (fun O as B h => by obtain ⟨p, q, _, rfl, _⟩ := h; rfl) fun f cdv A outer s H E hr O as B h => by
  obtain ⟨p, q, rfl, rfl, hp, hq, rfl⟩ := h
  refine rn_ret (ed_lt (ed_mul (ed_ixT (ev_v 0) ed_int) (ed_ixT (ev_v 1) ed_int) ?_) (ed_mul (ed_ixT (ev_v 1) ed_int) (ed_ixT (ev_v 0) ed_int) ?_)) fun a z => ⟨rfl, _, z, ?_⟩
  · exact cm hp.num hq.deni
  · exact cm hq.num hp.deni
  · rw [decide_eq_decide.mpr (Rat.lt_iff p q)]
end
end Ea

namespace Ea
open PySem PySem.Spec PyProof.Rows L2
open Classical in
noncomputable def sqN (n : Nat) : Option Nat := if h : ∃ k, k * k = n then some (Classical.choose h) else none
theorem sqN_some {n k : Nat} (h : k * k = n) : sqN n = some k := by
  unfold sqN
  have hx : ∃ k, k * k = n := ⟨k, h⟩
  rw [dif_pos hx, sqrt_uniq ((Classical.choose_spec hx).trans h.symm)]
theorem sqN_none {n : Nat} (h : ∀ k, k * k ≠ n) : sqN n = none := by
  unfold sqN
  rw [dif_neg (fun ⟨r, q⟩ => h r q)]
theorem sqN_is {n k : Nat} (h : sqN n = some k) : k * k = n := by
  unfold sqN at h
  split at h
  · rename_i hx
    cases h
    exact Classical.choose_spec hx
  · cases h
theorem sqN_no {n : Nat} (h : sqN n = none) (k : Nat) : k * k ≠ n := fun q => by
  rw [sqN_some q] at h; cases h
def optN : Option Nat → PyData
  | some k => .int (k : Nat)
  | none => .none
def optF : Option Rat → PyData
  | some r => fr r
  | none => .none
def Rwr : RF := fun O as B => ∃ i : Int, O = [] ∧ as = [.d (.int i)] ∧ 0 ≤ i ∧ Sm 20000 i.natAbs ∧ B = (· = optN (sqN i.natAbs))
theorem r_whole_root {i : Int} (h0 : 0 ≤ i) (h : Sm 20000 i.natAbs) : Rwr [] [.d (.int i)] (· = optN (sqN i.natAbs)) := ⟨i, rfl, rfl, h0, h, rfl⟩
def Rrt : RF := fun O as B => ∃ p : Rat, O = [] ∧ as = [.d (fr p)] ∧ Sz 20000 p ∧ B = (· = optF (sqR p))
theorem r_root {p : Rat} (h : Sz 20000 p) : Rrt [] [.d (fr p)] (· = optF (sqR p)) := ⟨p, rfl, rfl, h, rfl⟩
theorem sm_lin {n k : Nat} (h : Sm 20000 n) (hk : k ≤ 2 * n + 1) : Sm 20002 k := by
  have h1 : Sm 20001 (n + n) := h.add h
  have h2 : Sm 20001 1 := Sm.mono (m := 1) ⟨by decide⟩ (by omega)
  exact (h1.add h2).le (by omega)
section
variable {P : Program} {w : World} {K : PySem.W.Frag} {mg : Str → Option Value} {base : Heap}
theorem d_whole_root (T : Tx K mg) : Df P w K mg base 1 "whole_root" Rwr := df_mk (N := ["number", "least", "most", "middle"]) (ps := ["number"]) T.f_whole_root ⟨rfl, rfl, rfl, by decide +kernel, rfl, by decide +kernel, by decide +kernel⟩ (fun _ _ _ _ _ _ us hl => match us, hl with | [_], _ => rfl) (fun O as B h => by obtain ⟨i, _, rfl, _⟩ := h; rfl) fun f cdv A outer s H E hr O as B h => by
  obtain ⟨i, rfl, rfl, h0, hz, rfl⟩ := h
  obtain ⟨n, rfl⟩ : ∃ n : Nat, i = (n : Int) := ⟨i.toNat, by omega⟩
  rw [Int.natAbs_natCast] at hz ⊢
  have nd : (["number", "least", "most", "middle"] : List Str).Nodup := by decide +kernel
  have mm : ∀ k l : Nat, k ≤ 2 * n + 1 → l ≤ 2 * n + 1 → CMulW (k : Nat) (l : Nat) := fun k l hk hl => cm (m := 20002) (n := 20002) (by rw [Int.natAbs_natCast]; exact sm_lin hz hk) (by rw [Int.natAbs_natCast]; exact sm_lin hz hl)
  have m2 : ∀ k : Nat, k ≤ 2 * n + 1 → CMulW (k : Nat) 2 := fun k hk => cm (m := 20002) (n := 4) (by rw [Int.natAbs_natCast]; exact sm_lin hz hk) sm2
  refine rn_asg (ed_tup2 ed_int ed_int) (tg_pair rfl (tg_name 1 nd) (tg_name 2 nd)) ?_
  refine rn_while (fun ds => ∃ m : Nat, ds = [some (.d (.int n)), some (.d (.int 0)), some (.d (.int (m : Nat))), none] ∧ 0 < m ∧ m ≤ 2 * n + 1) (fun ds => match ds with
    | [_, _, some (.d (.int m)), _] => (2 * n + 2 - m).toNat
    | _ => 0) PassesOwn.never ⟨1, rfl, by decide, by omega⟩ fun ds' h => ?_
  obtain ⟨m, rfl, hm0, hm⟩ := h
  refine ⟨_, (et_le (ed_mul (ev_v 2) (ev_v 2) ?_) (ev_v 0)), fun hk => ?_, fun hk => ?_⟩
  · exact mm m m hm hm
  · have hle : ((m : Int) * (m : Int)) ≤ (n : Int) := of_decide_eq_true hk
    have hle2 : m * m ≤ n := by rw [← Int.natCast_mul] at hle; omega
    have hmn : m ≤ n := Nat.le_trans (Nat.le_mul_of_pos_left m hm0) hle2
    refine rn_setd 2 (ed_mul (ev_v 2) ed_int ?_) (rn_nil ⟨rfl, ⟨m * 2, by rw [Int.natCast_mul]; rfl, by omega, by omega⟩, ?_⟩) nd
    · exact m2 m hm
    · show ((2 * (n : Int) + 2 - (m : Int) * 2).toNat) < (2 * (n : Int) + 2 - (m : Int)).toNat
      omega
  have hgt : ¬ ((m : Int) * (m : Int)) ≤ (n : Int) := of_decide_eq_false hk
  have hgt2 : n < m * m := by rw [← Int.natCast_mul] at hgt; omega
  -- the bisection
  refine rn_while (fun ds => ∃ (l m : Nat) (o : Option AV), ds = [some (.d (.int n)), some (.d (.int (l : Nat))), some (.d (.int (m : Nat))), o] ∧ l < m ∧ m ≤ 2 * n + 1 ∧ l * l ≤ n ∧ n < m * m) (fun ds => match ds with
    | [_, some (.d (.int l)), some (.d (.int m)), _] => (m - l).toNat
    | _ => 0) PassesOwn.never ⟨0, m, none, rfl, hm0, hm, by omega, hgt2⟩ fun ds' h => ?_
  obtain ⟨l, m, o, rfl, hlm, hm, hl2, hm2⟩ := h
  refine ⟨_, (et_gt (ed_sub (ev_v 2) (ev_v 1)) ed_int), fun hk => ?_, fun hk => ?_⟩
  · have hlt : 1 < (m : Int) - (l : Int) := of_decide_eq_true hk
    have emid : ((l : Int) + (m : Int)) / 2 = (((l + m) / 2 : Nat) : Int) := by omega
    refine rn_setd 3 (ed_fdiv (ed_add (ev_v 1) (ev_v 2)) ed_int ?_) ?_ nd
    · exact wide_div (b := 4) (by decide) (by decide) (by decide) (by decide)
    rw [emid]
    generalize hmid : (l + m) / 2 = c
    have h1 : l < c := by omega
    have h2 : c < m := by omega
    refine rn_if (et_le (ed_mul (ev_v 3) (ev_v 3) ?_) (ev_v 0)) (fun hk => rn_thru (ds' := [some (.d (.int n)), some (.d (.int (c : Nat))), some (.d (.int (m : Nat))), some (.d (.int (c : Nat)))]) ?_ (rn_nil ⟨rfl, ⟨c, m, _, rfl, h2, hm, ?_, hm2⟩, ?_⟩)) fun hk => rn_thru (ds' := [some (.d (.int n)), some (.d (.int (l : Nat))), some (.d (.int (c : Nat))), some (.d (.int (c : Nat)))]) ?_ (rn_nil ⟨rfl, ⟨l, c, _, rfl, h1, by omega, hl2, ?_⟩, ?_⟩)
    · exact mm c c (by omega) (by omega)
    · exact rn_setd 1 (ev_v 3) (rn_nil ⟨rfl, rfl⟩) nd
    · have z : ((c : Int) * (c : Int)) ≤ (n : Int) := of_decide_eq_true hk
      rw [← Int.natCast_mul] at z; omega
    · show ((m : Int) - (c : Int)).toNat < ((m : Int) - (l : Int)).toNat
      omega
    · exact rn_setd 2 (ev_v 3) (rn_nil ⟨rfl, rfl⟩) nd
    · have z : ¬ ((c : Int) * (c : Int)) ≤ (n : Int) := of_decide_eq_false hk
      rw [← Int.natCast_mul] at z; omega
    · show ((c : Int) - (l : Int)).toNat < ((m : Int) - (l : Int)).toNat
      omega
  · have hge : ¬ 1 < (m : Int) - (l : Int) := of_decide_eq_false hk
    have e : m = l + 1 := by omega
    subst e
    refine rn_ifR (et_eqI (ed_mul (ev_v 1) (ev_v 1) ?_) (ev_v 0)) (fun hk => rn_ret (ev_v 1) fun a z => ⟨rfl, _, z, ?_⟩) fun hk => rn_ret ed_non fun a z => ⟨rfl, _, z, ?_⟩
    · exact mm l l (by omega) (by omega)
    · have z : ((l : Int) * (l : Int)) = (n : Int) := of_decide_eq_true hk
      rw [← Int.natCast_mul] at z
      rw [sqN_some (show l * l = n by omega)]
      rfl
    · have z : ¬ ((l : Int) * (l : Int)) = (n : Int) := of_decide_eq_false hk
      rw [← Int.natCast_mul] at z
      rw [sqN_none fun k hk => ?_]
      · rfl
      · rcases Nat.lt_trichotomy k l with y | y | y
        · have := Nat.mul_lt_mul'' y y; omega
        · subst y; omega
        · have := Nat.mul_le_mul (show l + 1 ≤ k from y) (show l + 1 ≤ k from y); omega
theorem d_root (T : Tx K mg) : Df P w K mg base 4 "root" Rrt := df_mk (N := ["a", "top", "bottom"]) (ps := ["a"]) T.f_root ⟨rfl, rfl, rfl, by decide +kernel, rfl, by decide +kernel, by decide +kernel⟩ (fun _ _ _ _ _ _ us hl => match us, hl with | [_], _ => rfl) (fun O as B h => by obtain ⟨i, _, rfl, _⟩ := h; rfl) fun f cdv A outer s H E hr O as B h => by
  obtain ⟨p, rfl, rfl, hz, rfl⟩ := h
  have nd : (["a", "top", "bottom"] : List Str).Nodup := by decide +kernel
  refine rn_expr (ed_call (d_check_fraction T) hr (by decide) (ea_cons (ev_v 0) ea_nil) (r_check_fraction)) ?_
  by_cases hn : p.num < 0
  · refine rn_ifRT (EvT.to (et_lt (ed_ixT (ev_v 0) ed_int) ed_int) (decide_eq_true hn)) (rn_ret ed_non fun a z => ⟨rfl, _, z, ?_⟩)
    rw [sqR_none fun r hr => ?_]
    · rfl
    · have h1 := hr.1
      have h2 := hr.2
      have : 0 ≤ p := by rw [← h2]; exact Rat.mul_nonneg h1 h1
      have := Rat.num_nonneg.mpr this
      omega
  refine rn_ifF (EvT.to (et_lt (ed_ixT (ev_v 0) ed_int) ed_int) (decide_eq_false hn)) ?_
  refine rn_par 1 2 (ea_cons (ed_call (d_whole_root T) hr (by decide) (ea_cons (ed_ixT (ev_v 0) ed_int) ea_nil) (r_whole_root ?_ ?_)) (ea_cons (ed_call (d_whole_root T) hr (by decide) (ea_cons (ed_ixT (ev_v 0) ed_int) ea_nil) (r_whole_root ?_ ?_)) ea_nil)) ?_ rfl nd
  · omega
  · exact hz.num
  · omega
  · rw [Int.natAbs_natCast]; exact hz.den
  rw [Int.natAbs_natCast]
  cases e1 : sqN p.num.natAbs with
  | none =>
    refine rn_ifRT (EvT.to (et_w (ew_or (et_isN (ev_v 1)) fun _ => (ew_or1 (et_isN (ev_v 2))))) (by rfl)) (rn_ret ed_non fun a z => ⟨rfl, _, z, ?_⟩)
    rw [sqR_none fun r hr => ?_]
    · rfl
    · have q := (root_nd hr).1
      exact sqN_no e1 r.num.toNat (by omega)
  | some a =>
    cases e2 : sqN p.den with
    | none =>
      refine rn_ifRT (EvT.to (et_w (ew_or (et_isN (ev_v 1)) fun _ => (ew_or1 (et_isN (ev_v 2))))) (by rfl)) (rn_ret ed_non fun a z => ⟨rfl, _, z, ?_⟩)
      rw [sqR_none fun r hr => ?_]
      · rfl
      · exact sqN_no e2 r.den (root_nd hr).2
    | some b =>
      refine rn_ifF (EvT.to (et_w (ew_or (et_isN (ev_v 1)) fun _ => (ew_or1 (et_isN (ev_v 2))))) (by rfl)) <| rn_ret (ed_tup2 (ev_v 1) (ev_v 2)) fun a' z => ⟨rfl, _, z, ?_⟩
      obtain ⟨r, h1, h2, h3⟩ := root_mk (p := p) (a := a) (b := b) (by have := sqN_is e1; omega) (sqN_is e2)
      rw [sqR_some h1]
      show PyData.tuple [.int (a : Nat), .int (b : Nat)] = PyData.tuple [.int r.num, .int (r.den : Nat)]
      rw [h2, h3]
end
end Ea

namespace Ea
/-! ### cables: plain mathematics -/
abbrev Ln := Nat × Rat
structure GoodL (l : Ln) : Prop where
  s1 : 1 ≤ l.1
  s2 : l.1 ≤ 999
  pos : 0 < l.2
  n9 : l.2.num ≤ 9
  d6 : l.2.den ∣ 6
structure GoodC (c : List Ln) (bk : Rat) : Prop where
  len1 : 1 ≤ c.length
  len3 : c.length ≤ 3
  all : ∀ l ∈ c, GoodL l
  bk0 : 0 ≤ bk
  bkn : bk.num ≤ 999
  bkd : bk.den ≤ 999
def stepsC (c : List Ln) : Nat := (c.map (·.1)).sum
theorem steps_int : ∀ c : List Ln, (c.map fun l => ((l.1 : Nat) : Int)).sum = ((stepsC c : Nat) : Int)
  | [] => rfl
  | l :: c => by
    have ih := steps_int c
    unfold stepsC at ih ⊢
    rw [List.map_cons, List.sum_cons, List.map_cons, List.sum_cons, ih]
    omega
def wholeC : List Ln → Rat
  | [] => 0
  | l :: c => (l.1 : Rat) * l.2 + wholeC c
def dragC : List Ln → Rat → Rat
  | [], _ => 0
  | l :: c, x => if (l.1 : Rat) < x then (l.1 : Rat) * l.2 + dragC c (x - (l.1 : Rat)) else x * l.2
def placeC : List Ln → Rat → Rat
  | [], _ => 0
  | l :: c, y => if (l.1 : Rat) * l.2 < y then (l.1 : Rat) + placeC c (y - (l.1 : Rat) * l.2) else y / l.2
theorem GoodL.d0 {l : Ln} (h : GoodL l) : l.2 ≠ 0 := fun e => by
  have := h.pos
  rw [e] at this
  exact absurd this (by decide)
theorem GoodL.sn {l : Ln} (h : GoodL l) : Sz 10 (l.1 : Rat) := sz_nat ⟨by have := h.s2; omega⟩ ⟨by decide⟩
theorem GoodL.sd {l : Ln} (h : GoodL l) : Sz 4 l.2 := by
  have h1 := h.n9
  have h2 : 0 < l.2.num := (num_pos_iff l.2).mpr h.pos
  have h3 : l.2.den ≤ 6 := Nat.le_of_dvd (by decide) h.d6
  exact ⟨⟨by omega⟩, ⟨by omega⟩⟩
theorem wholeC_app : ∀ (a b : List Ln), wholeC (a ++ b) = wholeC a + wholeC b
  | [], b => by show wholeC b = 0 + wholeC b; grind
  | l :: a, b => by
    show (l.1 : Rat) * l.2 + wholeC (a ++ b) = (l.1 : Rat) * l.2 + wholeC a + wholeC b
    rw [wholeC_app a b]; grind
theorem take_succ' {c : List Ln} {i : Nat} {l : Ln} (h : c[i]? = some l) : c.take (i + 1) = c.take i ++ [l] := by rw [List.take_add_one, h]; rfl
theorem wholeC_take {c : List Ln} {i : Nat} {l : Ln} (h : c[i]? = some l) : wholeC (c.take (i + 1)) = wholeC (c.take i) + (l.1 : Rat) * l.2 := by
  rw [take_succ' h, wholeC_app]
  show _ + ((l.1 : Rat) * l.2 + 0) = _
  grind
theorem drop_cons' {c : List Ln} {i : Nat} {l : Ln} (h : c[i]? = some l) : c.drop i = l :: c.drop (i + 1) := by
  obtain ⟨hi, e⟩ := List.getElem?_eq_some_iff.mp h
  rw [List.drop_eq_getElem_cons hi, e]
theorem sz_zero {n : Nat} (h : 0 < n) : Sz n (0 : Rat) := ⟨⟨Nat.pow_pos (by decide)⟩, ⟨Nat.one_lt_two_pow (by omega)⟩⟩
theorem sz_wholeC : ∀ (c : List Ln), (∀ l ∈ c, GoodL l) → Sz (15 * c.length + 1) (wholeC c)
  | [], _ => sz_zero (by decide)
  | l :: c, h => by
    have h1 := h l List.mem_cons_self
    have h2 := sz_wholeC c fun x hx => h x (List.mem_cons_of_mem _ hx)
    exact ((h1.sn.mul h1.sd).add h2).mono (by rw [List.length_cons]; omega)
theorem GoodC.sz {c : List Ln} {bk : Rat} (h : GoodC c bk) : Sz 46 (wholeC c) := (sz_wholeC c h.all).mono (by have := h.len3; omega)
theorem sz_steps : ∀ (c : List Ln), (∀ l ∈ c, GoodL l) → stepsC c ≤ 999 * c.length
  | [], _ => Nat.le_refl _
  | l :: c, h => by
    have h1 := (h l List.mem_cons_self).s2
    have h2 := sz_steps c fun x hx => h x (List.mem_cons_of_mem _ hx)
    unfold stepsC at h2 ⊢
    rw [List.map_cons, List.sum_cons, List.length_cons]
    omega
theorem GoodC.szsteps {c : List Ln} {bk : Rat} (h : GoodC c bk) : Sz 12 ((stepsC c : Nat) : Rat) := sz_nat ⟨by have h1 := sz_steps c h.all; have h2 := h.len3; omega⟩ ⟨by decide⟩
end Ea

namespace Ea
open PySem PySem.Spec PyProof.Rows L2
/-! ### cables -/
abbrev lenD (l : Ln) : PyData := .tuple [.int (l.1 : Nat), fr l.2]
abbrev cabD (c : List Ln) (bk : Rat) : PyData := .tuple [.tuple (c.map lenD), fr bk]
theorem fr_nat (n : Nat) : fr (n : Rat) = .tuple [.int (n : Nat), .int 1] := by
  show PyData.tuple [.int _, .int _] = _
  rw [Rat.num_natCast, Rat.den_natCast]; rfl
section
variable {X : Cx} {O : OS} {ds : AS} {e : Expr}
theorem ed_natF {n : Nat} (h : Ed X O e ds (.tuple [.int (n : Nat), .int 1])) : Ed X O e ds (fr (n : Rat)) := by rw [fr_nat]; exact h
theorem ed_zeroF (h : Ed X O e ds (.tuple [.int 0, .int 1])) : Ed X O e ds (fr 0) := h
theorem fr_half : fr (1 / 2) = .tuple [.int 1, .int 2] := by
  show PyData.tuple [.int _, .int _] = _
  rw [show (1 / 2 : Rat).num = 1 by decide +kernel, show (1 / 2 : Rat).den = 2 by decide +kernel]; rfl
theorem ed_halfF (h : Ed X O e ds (.tuple [.int 1, .int 2])) : Ed X O e ds (fr (1 / 2)) := by rw [fr_half]; exact h
end
theorem map_at {α β : Type} {f : α → β} {c : List α} {i : Nat} {x : β} (h : (c.map f)[i]? = some x) : ∃ l, c[i]? = some l ∧ x = f l := by
  rw [List.getElem?_map] at h
  cases q : c[i]? with
  | none => rw [q] at h; cases h
  | some l => rw [q] at h; exact ⟨l, rfl, (Option.some.inj h).symm⟩
def Rsmall : RF := fun O as B => ∃ q : Rat, O = [] ∧ as = [.d (fr q)] ∧ q.num ≤ 999 ∧ q.den ≤ 999 ∧ B = (· = .bool true)
theorem r_is_small {q : Rat} (h : q.num ≤ 999) (h' : q.den ≤ 999) : Rsmall [] [.d (fr q)] (· = .bool true) := ⟨q, rfl, rfl, h, h', rfl⟩
def Rlength : RF := fun O as B => ∃ l : Ln, O = [] ∧ as = [.d (lenD l)] ∧ GoodL l ∧ B = (· = .bool true)
theorem r_is_length {l : Ln} (h : GoodL l) : Rlength [] [.d (lenD l)] (· = .bool true) := ⟨l, rfl, rfl, h, rfl⟩
def Rcable (r : List Ln → Rat → PyData) : RF := fun O as B => ∃ c bk, O = [] ∧ as = [.d (cabD c bk)] ∧ GoodC c bk ∧ B = (· = r c bk)
theorem r_is_cable {c : List Ln} {bk : Rat} (h : GoodC c bk) : Rcable (fun _ _ => .bool true) [] [.d (cabD c bk)] (· = .bool true) := ⟨c, bk, rfl, rfl, h, rfl⟩
theorem r_check_cable {c : List Ln} {bk : Rat} (h : GoodC c bk) : Rcable (fun _ _ => .none) [] [.d (cabD c bk)] (· = .none) := ⟨c, bk, rfl, rfl, h, rfl⟩
theorem r_all_steps {c : List Ln} {bk : Rat} (h : GoodC c bk) : Rcable (fun c _ => .int (stepsC c : Nat)) [] [.d (cabD c bk)] (· = .int (stepsC c : Nat)) := ⟨c, bk, rfl, rfl, h, rfl⟩
theorem r_all_drag {c : List Ln} {bk : Rat} (h : GoodC c bk) : Rcable (fun c _ => fr (wholeC c)) [] [.d (cabD c bk)] (· = fr (wholeC c)) := ⟨c, bk, rfl, rfl, h, rfl⟩
def Rplace (r : List Ln → Rat → PyData) : RF := fun O as B => ∃ c bk x, O = [] ∧ as = [.d (cabD c bk), .d (fr x)] ∧ GoodC c bk ∧ Sz 4000 x ∧ 0 ≤ x ∧ x ≤ (stepsC c : Nat) ∧ B = (· = r c x)
theorem r_is_place {c : List Ln} {bk x : Rat} (h : GoodC c bk) (hz : Sz 4000 x) (h0 : 0 ≤ x) (h1 : x ≤ (stepsC c : Nat)) : Rplace (fun _ _ => .bool true) [] [.d (cabD c bk), .d (fr x)] (· = .bool true) := ⟨c, bk, x, rfl, rfl, h, hz, h0, h1, rfl⟩
theorem r_check_place {c : List Ln} {bk x : Rat} (h : GoodC c bk) (hz : Sz 4000 x) (h0 : 0 ≤ x) (h1 : x ≤ (stepsC c : Nat)) : Rplace (fun _ _ => .none) [] [.d (cabD c bk), .d (fr x)] (· = .none) := ⟨c, bk, x, rfl, rfl, h, hz, h0, h1, rfl⟩
def Rat2 (r : List Ln → Rat → PyData) : RF := fun O as B => ∃ c bk x, O = [] ∧ as = [.d (cabD c bk), .d (fr x)] ∧ GoodC c bk ∧ Sz 4000 x ∧ B = (· = r c x)
theorem r_drag_at {c : List Ln} {bk x : Rat} (h : GoodC c bk) (hz : Sz 4000 x) : Rat2 (fun c x => fr (dragC c x)) [] [.d (cabD c bk), .d (fr x)] (· = fr (dragC c x)) := ⟨c, bk, x, rfl, rfl, h, hz, rfl⟩
theorem r_place_with {c : List Ln} {bk x : Rat} (h : GoodC c bk) (hz : Sz 4000 x) : Rat2 (fun c x => fr (placeC c x)) [] [.d (cabD c bk), .d (fr x)] (· = fr (placeC c x)) := ⟨c, bk, x, rfl, rfl, h, hz, rfl⟩
section
variable {P : Program} {w : World} {K : PySem.W.Frag} {mg : Str → Option Value} {base : Heap}
theorem d_is_small (T : Tx K mg) : Df P w K mg base 1 "is_small" Rsmall := df_mk (N := ["x"]) (ps := ["x"]) T.f_is_small ⟨rfl, rfl, rfl, by decide +kernel, rfl, by decide +kernel, by decide +kernel⟩ (fun _ _ _ _ _ _ us hl => match us, hl with | [_], _ => rfl) (fun O as B h => by obtain ⟨q, _, rfl, _⟩ := h; rfl) fun f cdv A outer s H E hr O as B h => by
  obtain ⟨q, rfl, rfl, h1, h2, rfl⟩ := h
  refine rn_ret (ed_and (ed_le (ed_ixT (ev_v 0) ed_int) (ed_glob T.c_MOST_NUMBER)) fun _ => (ed_one (ed_le (ed_ixT (ev_v 0) ed_int) (ed_glob T.c_MOST_NUMBER)))) fun a z => ⟨rfl, _, z, ?_⟩
  rw [decide_eq_true h1, decide_eq_true (show ((q.den : Nat) : Int) ≤ 999 by omega)]
  rfl
theorem d_is_length (T : Tx K mg) : Df P w K mg base 4 "is_length" Rlength := df_mk (N := ["x"]) (ps := ["x"]) T.f_is_length ⟨rfl, rfl, rfl, by decide +kernel, rfl, by decide +kernel, by decide +kernel⟩ (fun _ _ _ _ _ _ us hl => match us, hl with | [_], _ => rfl) (fun O as B h => by obtain ⟨q, _, rfl, _⟩ := h; rfl) fun f cdv A outer s H E hr O as B h => by
  obtain ⟨l, rfl, rfl, hl, rfl⟩ := h
  have h1 := hl.s1
  have h2 := hl.s2
  have h3 : l.2.den ≤ 6 := Nat.le_of_dvd (by decide) hl.d6
  refine rn_ifF (EvT.to (et_w (ew_or (et_not (et_val (ed_isi_tuple_tuple T.b_isinstance T.b_tuple (ev_v 0)))) fun _ => (ew_or (et_neI (ed_len T.b_len (ev_v 0) (.inr rfl)) ed_int) fun _ => (ew_or (et_not (et_val (ed_call (d_is_whole T) hr (by decide) (ea_cons (ed_ixT (ev_v 0) ed_int) ea_nil) (r_is_whole)))) fun _ => (ew_or1 (et_not (et_le2 ed_int (ed_ixT (ev_v 0) ed_int) (ed_glob T.c_MOST_NUMBER)))))))) ?_) (rn_ret (ed_and (ed_call (d_is_above_zero T) hr (by decide) (ea_cons (ed_ixT (ev_v 0) ed_int) ea_nil) (r_is_above_zero)) fun _ => (ed_one (ed_call (d_is_small T) hr (by decide) (ea_cons (ed_ixT (ev_v 0) ed_int) ea_nil) (r_is_small ?_ ?_)))) fun a z => ⟨rfl, _, z, ?_⟩)
  · rw [decide_eq_true (show (1 : Int) ≤ (l.1 : Nat) by omega), decide_eq_true (show ((l.1 : Nat) : Int) ≤ 999 by omega)]; rfl
  · have := hl.n9; omega
  · omega
  · rw [decide_eq_true hl.pos]; rfl
theorem d_is_cable (T : Tx K mg) : Df P w K mg base 5 "is_cable" (Rcable (fun _ _ => .bool true)) := df_mk (N := ["x", "one"]) (ps := ["x"]) T.f_is_cable ⟨rfl, rfl, rfl, by decide +kernel, rfl, by decide +kernel, by decide +kernel⟩ (fun _ _ _ _ _ _ us hl => match us, hl with | [_], _ => rfl) (fun O as B h => by obtain ⟨c, bk, _, rfl, _⟩ := h; rfl) fun f cdv A outer s H E hr O as B h => by
  obtain ⟨c, bk, rfl, rfl, hc, rfl⟩ := h
  have nd : (["x", "one"] : List Str).Nodup := by decide +kernel
  have h1 := hc.len1
  have h2 := hc.len3
  refine rn_ifF (EvT.to (et_w (ew_or (et_not (et_val (ed_isi_tuple_tuple T.b_isinstance T.b_tuple (ev_v 0)))) fun _ => (ew_or (et_neI (ed_len T.b_len (ev_v 0) (.inr rfl)) ed_int) fun _ => (ew_or1 (et_not (et_val (ed_isi_tuple_tuple T.b_isinstance T.b_tuple (ed_ixT (ev_v 0) ed_int)))))))) (by rfl)) ?_
  refine rn_ifF (EvT.to (et_w (ew_or (et_not (et_le2 ed_int (ed_len T.b_len (ed_ixT (ev_v 0) ed_int) (.inr rfl)) (ed_glob T.c_MOST_LENGTHS))) fun _ => (ew_or1 (et_not (et_val (ed_all (ns := c.map fun _ => true) rfl T.b_all (ed_lc (own := [("one", 1)]) rfl nd (iw_tup (ed_ixT (ev_v 0) ed_int)) (fun _ h => (nomatch h)) (blkOk_by (N := ["x", "one"]) (sc := defScope (topS 29)) (by decide +kernel)) (tb_name 1 nd (fun _ _ _ _ _ => (pg_name (i := 1) nd rfl (Or.inl rfl)))) (fun _ _ => True.intro) ?_ ?_ (fun ci cx cy hcx hcy _ _ _ _ _ => ?_)))))))) ?_) (rn_ret (ed_and (ed_call (d_is_from_zero T) hr (by decide) (ea_cons (ed_ixT (ev_v 0) ed_int) ea_nil) (r_is_from_zero)) fun _ => (ed_one (ed_call (d_is_small T) hr (by decide) (ea_cons (ed_ixT (ev_v 0) ed_int) ea_nil) (r_is_small ?_ ?_)))) fun a z => ⟨rfl, _, z, ?_⟩)
  · rw [List.length_map, List.length_map, List.length_map]
  · rw [List.length_map]; omega
  · obtain ⟨l, e1, rfl⟩ := map_at hcx
    rw [List.map_map] at hcy
    obtain ⟨l2, e2, rfl⟩ := map_at hcy
    refine (ed_call (d_is_length T) hr (by decide) (ea_cons (ev_v 1) ea_nil) (r_is_length ?_))
    exact hc.all l (List.mem_of_getElem? e1)
  · rw [List.length_map, decide_eq_true (show (1 : Int) ≤ (c.length : Nat) by omega), decide_eq_true (show ((c.length : Nat) : Int) ≤ 12 by omega)]
    have : (c.map fun _ => true).all id = true := by
      rw [List.all_map]
      exact List.all_eq_true.mpr fun _ _ => rfl
    rw [this]; rfl
  · exact hc.bkn
  · exact hc.bkd
  · rw [decide_eq_true hc.bk0]; rfl
theorem d_check_cable (T : Tx K mg) : Df P w K mg base 6 "check_cable" (Rcable (fun _ _ => .none)) := df_mk (N := ["cable"]) (ps := ["cable"]) T.f_check_cable ⟨rfl, rfl, rfl, by decide +kernel, rfl, by decide +kernel, by decide +kernel⟩ (fun _ _ _ _ _ _ us hl => match us, hl with | [_], _ => rfl) (fun O as B h => by obtain ⟨c, bk, _, rfl, _⟩ := h; rfl) fun f cdv A outer s H E hr O as B h => by
  obtain ⟨c, bk, rfl, rfl, hc, rfl⟩ := h
  refine rn_ifF (EvT.to (et_not (et_val (ed_call (d_is_cable T) hr (by decide) (ea_cons (ev_v 0) ea_nil) (r_is_cable ?_)))) (by rfl)) (rn_nil ⟨rfl, rfl⟩)
  exact hc
theorem d_all_steps (T : Tx K mg) : Df P w K mg base 1 "all_steps" (Rcable (fun c _ => .int (stepsC c : Nat))) := df_mk (N := ["cable", "steps", "drag"]) (ps := ["cable"]) T.f_all_steps ⟨rfl, rfl, rfl, by decide +kernel, rfl, by decide +kernel, by decide +kernel⟩ (fun _ _ _ _ _ _ us hl => match us, hl with | [_], _ => rfl) (fun O as B h => by obtain ⟨c, bk, _, rfl, _⟩ := h; rfl) fun f cdv A outer s H E hr O as B h => by
  obtain ⟨c, bk, rfl, rfl, hc, rfl⟩ := h
  have nd : (["cable", "steps", "drag"] : List Str).Nodup := by decide +kernel
  have h2 := hc.len3
  refine rn_ret (ed_sum (ns := c.map fun l => ((l.1 : Nat) : Int)) rfl T.b_sum (ed_lc (own := [("steps", 1), ("drag", 2)]) rfl nd (iw_tup (ed_ixT (ev_v 0) ed_int)) (fun _ h => (nomatch h)) (blkOk_by (N := ["cable", "steps", "drag"]) (sc := defScope (topS 31)) (by decide +kernel)) (tb_pair 1 2 (fun _ _ _ _ _ => pg_tup rfl (pgs_cons (pg_name (i := 1) nd rfl (Or.inl rfl)) (pgs_cons (pg_name (i := 2) nd rfl (Or.inl rfl)) pgs_nil)))) ?_ ?_ ?_ (fun ci cx cy hcx hcy _ _ _ _ _ => ?_))) fun a z => ⟨rfl, _, z, ?_⟩
  · intro x hx
    obtain ⟨l, _, rfl⟩ := List.mem_map.mp hx
    exact ⟨_, _, rfl⟩
  · rw [List.length_map, List.length_map, List.length_map]
  · rw [List.length_map]; omega
  · obtain ⟨l, e1, rfl⟩ := map_at hcx
    rw [List.map_map] at hcy
    obtain ⟨l2, e2, rfl⟩ := map_at hcy
    rw [e1] at e2
    cases e2
    exact (ev_v 1)
  · show PyData.int _ = PyData.int _
    rw [steps_int]
theorem d_all_drag (T : Tx K mg) : Df P w K mg base 4 "all_drag" (Rcable (fun c _ => fr (wholeC c))) := df_mk (N := ["cable", "found", "steps", "drag"]) (ps := ["cable"]) T.f_all_drag ⟨rfl, rfl, rfl, by decide +kernel, rfl, by decide +kernel, by decide +kernel⟩ (fun _ _ _ _ _ _ us hl => match us, hl with | [_], _ => rfl) (fun O as B h => by obtain ⟨c, bk, _, rfl, _⟩ := h; rfl) fun f cdv A outer s H E hr O as B h => by
  obtain ⟨c, bk, rfl, rfl, hc, rfl⟩ := h
  have nd : (["cable", "found", "steps", "drag"] : List Str).Nodup := by decide +kernel
  have h2 := hc.len3
  refine rn_setd 1 (ed_glob T.c_ZERO) ?_ nd
  refine rn_for0 (fun i ds => ∃ o1 o2, ds = [some (.d (cabD c bk)), some (.d (fr (wholeC (c.take i)))), o1, o2]) PassesOwn.never rfl (iw_tup (ed_ixT (ev_v 0) ed_int)) ⟨none, none, rfl⟩ (fun i x ds' hx inv => ?_) fun ds' inv => ?_
  · obtain ⟨l, e1, rfl⟩ := map_at hx
    obtain ⟨o1, o2, rfl⟩ := inv
    have hl := hc.all l (List.mem_of_getElem? e1)
    have sz1 : Sz 46 (wholeC (c.take i)) := (sz_wholeC _ fun x hx => hc.all x (List.mem_of_mem_take hx)).mono (by rw [List.length_take]; omega)
    refine ⟨_, tg_pair rfl (tg_name 2 nd) (tg_name 3 nd), rn_setd 1 (ed_call (d_add T) hr (by decide) (ea_cons (ev_v 1) (ea_cons (ed_call (d_mul T) hr (by decide) (ea_cons (ed_natF (ed_tup2 (ev_v 2) ed_int)) (ea_cons (ev_v 3) ea_nil)) (r_mul ?_ ?_)) ea_nil)) (r_add ?_ ?_)) (rn_nil ⟨rfl, some (.d (.int (l.1 : Nat))), some (.d (fr l.2)), ?_⟩) nd⟩
    · exact hl.sn.mono (by decide)
    · exact hl.sd.mono (by decide)
    · exact sz1.mono (by decide)
    · exact (hl.sn.mul hl.sd).mono (by decide)
    · rw [wholeC_take e1]; rfl
  · obtain ⟨o1, o2, rfl⟩ := inv
    rw [List.length_map, List.take_length]
    exact rn_ret (ev_v 1) fun a z => ⟨rfl, _, z, rfl⟩
theorem d_is_place (T : Tx K mg) : Df P w K mg base 4 "is_place" (Rplace (fun _ _ => .bool true)) := df_mk (N := ["cable", "x"]) (ps := ["cable", "x"]) T.f_is_place ⟨rfl, rfl, rfl, by decide +kernel, rfl, by decide +kernel, by decide +kernel⟩ (fun _ _ _ _ _ _ us hl => match us, hl with | [_, _], _ => rfl) (fun O as B h => by obtain ⟨c, bk, x, _, rfl, _⟩ := h; rfl) fun f cdv A outer s H E hr O as B h => by
  obtain ⟨c, bk, x, rfl, rfl, hc, hz, h0, h1, rfl⟩ := h
  refine rn_ret (ed_and (ed_call (d_is_from_zero T) hr (by decide) (ea_cons (ev_v 1) ea_nil) (r_is_from_zero)) fun _ => (ed_one (ed_not (ed_call (d_is_less T) hr (by decide) (ea_cons (ed_natF (ed_tup2 (ed_call (d_all_steps T) hr (by decide) (ea_cons (ev_v 0) ea_nil) (r_all_steps ?_)) ed_int)) (ea_cons (ev_v 1) ea_nil)) (r_is_less ?_ ?_))))) fun a z => ⟨rfl, _, z, ?_⟩
  · exact hc
  · exact hc.szsteps.mono (by decide)
  · exact hz.mono (by decide)
  · rw [decide_eq_true h0, decide_eq_false (Rat.not_lt.mpr h1)]; rfl
theorem d_check_place (T : Tx K mg) : Df P w K mg base 5 "check_place" (Rplace (fun _ _ => .none)) := df_mk (N := ["cable", "place"]) (ps := ["cable", "place"]) T.f_check_place ⟨rfl, rfl, rfl, by decide +kernel, rfl, by decide +kernel, by decide +kernel⟩ (fun _ _ _ _ _ _ us hl => match us, hl with | [_, _], _ => rfl) (fun O as B h => by obtain ⟨c, bk, x, _, rfl, _⟩ := h; rfl) fun f cdv A outer s H E hr O as B h => by
  obtain ⟨c, bk, x, rfl, rfl, hc, hz, h0, h1, rfl⟩ := h
  refine rn_ifF (EvT.to (et_not (et_val (ed_call (d_is_place T) hr (by decide) (ea_cons (ev_v 0) (ea_cons (ev_v 1) ea_nil)) (r_is_place ?_ ?_ ?_ ?_)))) (by rfl)) (rn_nil ⟨rfl, rfl⟩)
  · exact hc
  · exact hz
  · exact h0
  · exact h1
theorem d_drag_at (T : Tx K mg) : Df P w K mg base 4 "drag_at" (Rat2 (fun c x => fr (dragC c x))) := df_mk (N := ["cable", "place", "found", "left", "steps", "drag"]) (ps := ["cable", "place"]) T.f_drag_at ⟨rfl, rfl, rfl, by decide +kernel, rfl, by decide +kernel, by decide +kernel⟩ (fun _ _ _ _ _ _ us hl => match us, hl with | [_, _], _ => rfl) (fun O as B h => by obtain ⟨c, bk, x, _, rfl, _⟩ := h; rfl) fun f cdv A outer s H E hr O as B h => by
  obtain ⟨c, bk, x, rfl, rfl, hc, hz, rfl⟩ := h
  have nd : (["cable", "place", "found", "left", "steps", "drag"] : List Str).Nodup := by decide +kernel
  have h2 := hc.len3
  refine rn_setd 2 (ed_glob T.c_ZERO) (rn_setd 3 (ev_v 1) ?_ nd) nd
  refine rn_for0 (fun i ds => ∃ left o1 o2, ds = [some (.d (cabD c bk)), some (.d (fr x)), some (.d (fr (wholeC (c.take i)))), some (.d (fr left)), o1, o2] ∧ dragC c x = wholeC (c.take i) + dragC (c.drop i) left ∧ Sz (4000 + 12 * i) left) PassesOwn.never rfl (iw_tup (ed_ixT (ev_v 0) ed_int)) ⟨x, none, none, rfl, ?_, hz⟩ (fun i y ds' hx inv => ?_) fun ds' inv => ?_
  · show dragC c x = 0 + dragC c x
    grind
  · obtain ⟨l, e1, rfl⟩ := map_at hx
    obtain ⟨left, o1, o2, rfl, he, hs⟩ := inv
    have hi := (List.getElem?_eq_some_iff.mp e1).1
    have hl := hc.all l (List.mem_of_getElem? e1)
    have sz1 : Sz 46 (wholeC (c.take i)) := (sz_wholeC _ fun x hx => hc.all x (List.mem_of_mem_take hx)).mono (by rw [List.length_take]; omega)
    have hs' : Sz 4050 left := hs.mono (by omega)
    rw [drop_cons' e1] at he
    refine ⟨_, tg_pair rfl (tg_name 4 nd) (tg_name 5 nd), ?_⟩
    by_cases hlt : (l.1 : Rat) < left
    · refine rn_ifT (EvT.to (et_val (ed_call (d_is_less T) hr (by decide) (ea_cons (ed_natF (ed_tup2 (ev_v 4) ed_int)) (ea_cons (ev_v 3) ea_nil)) (r_is_less ?_ ?_))) (decide_eq_true hlt)) (rn_thru (rn_setd 2 (ed_call (d_add T) hr (by decide) (ea_cons (ev_v 2) (ea_cons (ed_call (d_mul T) hr (by decide) (ea_cons (ed_natF (ed_tup2 (ev_v 4) ed_int)) (ea_cons (ev_v 5) ea_nil)) (r_mul ?_ ?_)) ea_nil)) (r_add ?_ ?_)) (rn_setd 3 (ed_call (d_less T) hr (by decide) (ea_cons (ev_v 3) (ea_cons (ed_natF (ed_tup2 (ev_v 4) ed_int)) ea_nil)) (r_less ?_ ?_)) (rn_nil ⟨rfl, rfl⟩) nd) nd) (rn_nil ⟨rfl, left - (l.1 : Rat), some (.d (.int (l.1 : Nat))), some (.d (fr l.2)), ?_, ?_, ?_⟩))
      · exact hl.sn.mono (by decide)
      · exact hs'.mono (by decide)
      · exact hl.sn.mono (by decide)
      · exact hl.sd.mono (by decide)
      · exact sz1.mono (by decide)
      · exact (hl.sn.mul hl.sd).mono (by decide)
      · exact hs'.mono (by decide)
      · exact hl.sn.mono (by decide)
      · rw [wholeC_take e1]; rfl
      · rw [he, wholeC_take e1]
        show _ + (if (l.1 : Rat) < left then _ else _) = _
        rw [if_pos hlt]; grind
      · exact (hs.sub hl.sn).mono (by omega)
    · refine rn_ifE (EvT.to (et_val (ed_call (d_is_less T) hr (by decide) (ea_cons (ed_natF (ed_tup2 (ev_v 4) ed_int)) (ea_cons (ev_v 3) ea_nil)) (r_is_less ?_ ?_))) (decide_eq_false hlt)) (rn_ret (ed_call (d_add T) hr (by decide) (ea_cons (ev_v 2) (ea_cons (ed_call (d_mul T) hr (by decide) (ea_cons (ev_v 3) (ea_cons (ev_v 5) ea_nil)) (r_mul ?_ ?_)) ea_nil)) (r_add ?_ ?_)) fun a z => ⟨rfl, _, z, ?_⟩)
      · exact hl.sn.mono (by decide)
      · exact hs'.mono (by decide)
      · exact hs'.mono (by decide)
      · exact hl.sd.mono (by decide)
      · exact sz1.mono (by decide)
      · exact (hs'.mul hl.sd).mono (by decide)
      · show fr (wholeC (c.take i) + left * l.2) = fr (dragC c x)
        rw [he]
        show _ = fr (_ + (if (l.1 : Rat) < left then _ else _))
        rw [if_neg hlt]
  · obtain ⟨left, o1, o2, rfl, he, hs⟩ := inv
    rw [List.length_map, List.drop_length] at he
    rw [List.length_map] 
    refine rn_ret (ev_v 2) fun a z => ⟨rfl, _, z, ?_⟩
    show fr (wholeC (c.take c.length)) = fr (dragC c x)
    rw [he]
    show _ = fr (_ + 0)
    rw [show wholeC (c.take c.length) + 0 = wholeC (c.take c.length) by grind]
theorem d_place_with (T : Tx K mg) : Df P w K mg base 4 "place_with" (Rat2 (fun c x => fr (placeC c x))) := df_mk (N := ["cable", "drag", "here", "left", "steps", "each", "whole"]) (ps := ["cable", "drag"]) T.f_place_with ⟨rfl, rfl, rfl, by decide +kernel, rfl, by decide +kernel, by decide +kernel⟩ (fun _ _ _ _ _ _ us hl => match us, hl with | [_, _], _ => rfl) (fun O as B h => by obtain ⟨c, bk, x, _, rfl, _⟩ := h; rfl) fun f cdv A outer s H E hr O as B h => by
  obtain ⟨c, bk, x, rfl, rfl, hc, hz, rfl⟩ := h
  have nd : (["cable", "drag", "here", "left", "steps", "each", "whole"] : List Str).Nodup := by decide +kernel
  have h2 := hc.len3
  refine rn_setd 2 ed_int (rn_setd 3 (ev_v 1) ?_ nd) nd
  refine rn_for0 (fun i ds => ∃ (here : Nat) (left : Rat) (o1 o2 o3 : Option AV), ds = [some (.d (cabD c bk)), some (.d (fr x)), some (.d (.int (here : Nat))), some (.d (fr left)), o1, o2, o3] ∧ placeC c x = (here : Rat) + placeC (c.drop i) left ∧ Sz (4000 + 16 * i) left ∧ here ≤ 999 * i) PassesOwn.never rfl (iw_tup (ed_ixT (ev_v 0) ed_int)) ⟨0, x, none, none, none, rfl, ?_, hz, Nat.le_refl _⟩ (fun i y ds' hx inv => ?_) fun ds' inv => ?_
  · show placeC c x = ((0 : Nat) : Rat) + placeC c x
    have : ((0 : Nat) : Rat) = 0 := rfl
    rw [this]; grind
  · obtain ⟨l, e1, rfl⟩ := map_at hx
    obtain ⟨here, left, o1, o2, o3, rfl, he, hs, hh⟩ := inv
    have hi := (List.getElem?_eq_some_iff.mp e1).1
    have hl := hc.all l (List.mem_of_getElem? e1)
    have hs' : Sz 4050 left := hs.mono (by omega)
    have hh' : Sz 12 (here : Rat) := sz_nat ⟨by omega⟩ ⟨by decide⟩
    rw [drop_cons' e1] at he
    refine ⟨_, tg_pair rfl (tg_name 4 nd) (tg_name 5 nd), rn_setd 6 (ed_call (d_mul T) hr (by decide) (ea_cons (ed_natF (ed_tup2 (ev_v 4) ed_int)) (ea_cons (ev_v 5) ea_nil)) (r_mul ?_ ?_)) ?_ nd⟩
    · exact hl.sn.mono (by decide)
    · exact hl.sd.mono (by decide)
    by_cases hlt : (l.1 : Rat) * l.2 < left
    · refine rn_ifF (EvT.to (et_not (et_val (ed_call (d_is_less T) hr (by decide) (ea_cons (ev_v 6) (ea_cons (ev_v 3) ea_nil)) (r_is_less ?_ ?_)))) (by rw [decide_eq_true hlt]; rfl)) (rn_setd 3 (ed_call (d_less T) hr (by decide) (ea_cons (ev_v 3) (ea_cons (ev_v 6) ea_nil)) (r_less ?_ ?_)) (rn_setd 2 (ed_add (ev_v 2) (ev_v 4)) (rn_nil ⟨rfl, here + l.1, left - (l.1 : Rat) * l.2, some (.d (.int (l.1 : Nat))), some (.d (fr l.2)), some (.d (fr ((l.1 : Rat) * l.2))), ?_, ?_, ?_, ?_⟩) nd) nd)
      · exact (hl.sn.mul hl.sd).mono (by decide)
      · exact hs'.mono (by decide)
      · exact hs'.mono (by decide)
      · exact (hl.sn.mul hl.sd).mono (by decide)
      · rw [Int.natCast_add]; rfl
      · rw [he]
        show _ + (if (l.1 : Rat) * l.2 < left then _ else _) = _
        rw [if_pos hlt, Rat.natCast_add]; grind
      · exact (hs.sub (hl.sn.mul hl.sd)).mono (by omega)
      · have := hl.s2; omega
    · refine rn_ifRT (EvT.to (et_not (et_val (ed_call (d_is_less T) hr (by decide) (ea_cons (ev_v 6) (ea_cons (ev_v 3) ea_nil)) (r_is_less ?_ ?_)))) (by rw [decide_eq_false hlt]; rfl)) (rn_ret (ed_call (d_add T) hr (by decide) (ea_cons (ed_natF (ed_tup2 (ev_v 2) ed_int)) (ea_cons (ed_call (d_div T) hr (by decide) (ea_cons (ev_v 3) (ea_cons (ev_v 5) ea_nil)) (r_div ?_ ?_ ?_)) ea_nil)) (r_add ?_ ?_)) fun a z => ⟨rfl, _, z, ?_⟩)
      · exact (hl.sn.mul hl.sd).mono (by decide)
      · exact hs'.mono (by decide)
      · exact hs'.mono (by decide)
      · exact hl.sd.mono (by decide)
      · exact hl.d0
      · exact hh'.mono (by decide)
      · exact (hs'.div hl.sd hl.d0).mono (by decide)
      · show fr ((here : Rat) + left / l.2) = fr (placeC c x)
        rw [he]
        show _ = fr (_ + (if (l.1 : Rat) * l.2 < left then _ else _))
        rw [if_neg hlt]
  · obtain ⟨here, left, o1, o2, o3, rfl, he, hs, hh⟩ := inv
    rw [List.length_map, List.drop_length] at he
    refine rn_ret (ed_natF (ed_tup2 (ev_v 2) ed_int)) fun a z => ⟨rfl, _, z, ?_⟩
    show fr (here : Rat) = fr (placeC c x)
    rw [he]
    show _ = fr (_ + 0)
    rw [show (here : Rat) + 0 = (here : Rat) by grind]
end
end Ea

namespace Ea
/-! ### places and drags -/
theorem nn0 (n : Nat) : (0 : Rat) ≤ (n : Rat) := Rat.natCast_nonneg
theorem steps_cons (l : Ln) (c : List Ln) : ((stepsC (l :: c) : Nat) : Rat) = (l.1 : Rat) + ((stepsC c : Nat) : Rat) := by
  unfold stepsC
  rw [List.map_cons, List.sum_cons, Rat.natCast_add]
theorem GoodL.s0 {l : Ln} (h : GoodL l) : (0 : Rat) < (l.1 : Rat) := Rat.natCast_pos.mpr h.s1
theorem GoodL.sdp {l : Ln} (h : GoodL l) : (0 : Rat) < (l.1 : Rat) * l.2 := Rat.mul_pos h.s0 h.pos
theorem tl_good {l : Ln} {c : List Ln} (h : ∀ x ∈ l :: c, GoodL x) : GoodL l ∧ ∀ x ∈ c, GoodL x := ⟨h l List.mem_cons_self, fun x hx => h x (List.mem_cons_of_mem _ hx)⟩
theorem wholeC_nn : ∀ (c : List Ln), (∀ l ∈ c, GoodL l) → 0 ≤ wholeC c
  | [], _ => Rat.le_refl
  | l :: c, h => by
    obtain ⟨h1, h2⟩ := tl_good h
    have := wholeC_nn c h2
    have := h1.sdp
    show 0 ≤ (l.1 : Rat) * l.2 + wholeC c
    grind
theorem wholeC_pos {c : List Ln} {bk : Rat} (h : GoodC c bk) : 0 < wholeC c := by
  obtain ⟨h1, _, h3, _⟩ := h
  cases c with
  | nil => simp at h1
  | cons l c =>
    obtain ⟨h4, h5⟩ := tl_good h3
    have := wholeC_nn c h5
    have := h4.sdp
    show 0 < (l.1 : Rat) * l.2 + wholeC c
    grind
/-- drags of places within the cable: within all drag, above 0 above 0 -/
theorem dragC_bd : ∀ (c : List Ln) (x : Rat), (∀ l ∈ c, GoodL l) → 0 ≤ x → 0 ≤ dragC c x ∧ dragC c x ≤ wholeC c
  | [], x, _, _ => ⟨Rat.le_refl, Rat.le_refl⟩
  | l :: c, x, h, hx => by
    obtain ⟨h1, h2⟩ := tl_good h
    have hw := wholeC_nn c h2
    have hp := h1.sdp
    show 0 ≤ (if (l.1 : Rat) < x then (l.1 : Rat) * l.2 + dragC c (x - (l.1 : Rat)) else x * l.2) ∧ (if (l.1 : Rat) < x then (l.1 : Rat) * l.2 + dragC c (x - (l.1 : Rat)) else x * l.2) ≤ (l.1 : Rat) * l.2 + wholeC c
    by_cases hlt : (l.1 : Rat) < x
    · rw [if_pos hlt]
      have := dragC_bd c (x - (l.1 : Rat)) h2 (by grind)
      grind
    · rw [if_neg hlt]
      have a1 : x ≤ (l.1 : Rat) := Rat.not_lt.mp hlt
      have a2 : l.2 * x ≤ l.2 * (l.1 : Rat) := Rat.mul_le_mul_of_nonneg_left a1 (Rat.le_of_lt h1.pos)
      have a3 : 0 ≤ x * l.2 := Rat.mul_nonneg hx (Rat.le_of_lt h1.pos)
      grind
theorem dragC_pos : ∀ (c : List Ln) (x : Rat), (∀ l ∈ c, GoodL l) → 0 < x → x ≤ ((stepsC c : Nat) : Rat) → 0 < dragC c x
  | [], x, _, hx, h1 => by
    have : ((stepsC [] : Nat) : Rat) = 0 := rfl
    grind
  | l :: c, x, h, hx, _ => by
    obtain ⟨h1, h2⟩ := tl_good h
    have hp := h1.sdp
    show 0 < (if (l.1 : Rat) < x then (l.1 : Rat) * l.2 + dragC c (x - (l.1 : Rat)) else x * l.2)
    by_cases hlt : (l.1 : Rat) < x
    · rw [if_pos hlt]
      have := (dragC_bd c (x - (l.1 : Rat)) h2 (by grind)).1
      grind
    · rw [if_neg hlt]
      exact Rat.mul_pos hx h1.pos
theorem placeC_bd : ∀ (c : List Ln) (y : Rat), (∀ l ∈ c, GoodL l) → 0 ≤ y → y ≤ wholeC c → 0 ≤ placeC c y ∧ placeC c y ≤ ((stepsC c : Nat) : Rat)
  | [], y, _, _, _ => ⟨Rat.le_refl, Rat.le_refl⟩
  | l :: c, y, h, hy, hw => by
    obtain ⟨h1, h2⟩ := tl_good h
    have hw' : y ≤ (l.1 : Rat) * l.2 + wholeC c := hw
    have n1 := nn0 l.1
    have n2 := nn0 (stepsC c)
    rw [steps_cons]
    show 0 ≤ (if (l.1 : Rat) * l.2 < y then (l.1 : Rat) + placeC c (y - (l.1 : Rat) * l.2) else y / l.2) ∧ (if (l.1 : Rat) * l.2 < y then (l.1 : Rat) + placeC c (y - (l.1 : Rat) * l.2) else y / l.2) ≤ _
    by_cases hlt : (l.1 : Rat) * l.2 < y
    · rw [if_pos hlt]
      have := placeC_bd c (y - (l.1 : Rat) * l.2) h2 (by grind) (by grind)
      grind
    · rw [if_neg hlt]
      have d0 := h1.d0
      have e : y = y / l.2 * l.2 := by grind
      have p := h1.pos
      generalize y / l.2 = z at *
      constructor
      · by_cases hz : 0 ≤ z
        · exact hz
        · have := Rat.mul_pos (show 0 < -z by grind) p
          grind
      · by_cases hz : z ≤ (l.1 : Rat)
        · grind
        · have := Rat.mul_pos (show 0 < z - (l.1 : Rat) by grind) p
          grind
theorem placeC_pos : ∀ (c : List Ln) (y : Rat), (∀ l ∈ c, GoodL l) → 0 < y → y ≤ wholeC c → 0 < placeC c y
  | [], y, _, hy, hw => by
    have : wholeC [] = 0 := rfl
    grind
  | l :: c, y, h, hy, hw => by
    obtain ⟨h1, h2⟩ := tl_good h
    have hw' : y ≤ (l.1 : Rat) * l.2 + wholeC c := hw
    have n1 := h1.s0
    show 0 < (if (l.1 : Rat) * l.2 < y then (l.1 : Rat) + placeC c (y - (l.1 : Rat) * l.2) else y / l.2)
    by_cases hlt : (l.1 : Rat) * l.2 < y
    · rw [if_pos hlt]
      have := (placeC_bd c (y - (l.1 : Rat) * l.2) h2 (by grind) (by grind)).1
      grind
    · rw [if_neg hlt]
      have d0 := h1.d0
      have e : y = y / l.2 * l.2 := by grind
      have p := h1.pos
      generalize y / l.2 = z at *
      by_cases hz : 0 < z
      · exact hz
      · have := Rat.mul_nonneg (show 0 ≤ -z by grind) (Rat.le_of_lt p)
        grind
theorem dragC_placeC : ∀ (c : List Ln) (y : Rat), (∀ l ∈ c, GoodL l) → 0 ≤ y → y ≤ wholeC c → dragC c (placeC c y) = y
  | [], y, _, hy, hw => by
    have : wholeC [] = 0 := rfl
    show (0 : Rat) = y
    grind
  | l :: c, y, h, hy, hw => by
    obtain ⟨h1, h2⟩ := tl_good h
    have hw' : y ≤ (l.1 : Rat) * l.2 + wholeC c := hw
    show (if (l.1 : Rat) < placeC (l :: c) y then (l.1 : Rat) * l.2 + dragC c (placeC (l :: c) y - (l.1 : Rat)) else placeC (l :: c) y * l.2) = y
    by_cases hlt : (l.1 : Rat) * l.2 < y
    · have e : placeC (l :: c) y = (l.1 : Rat) + placeC c (y - (l.1 : Rat) * l.2) := by
        show (if (l.1 : Rat) * l.2 < y then _ else _) = _
        rw [if_pos hlt]
      have p := placeC_pos c (y - (l.1 : Rat) * l.2) h2 (by grind) (by grind)
      rw [if_pos (by rw [e]; grind), e]
      have := dragC_placeC c (y - (l.1 : Rat) * l.2) h2 (by grind) (by grind)
      rw [show (l.1 : Rat) + placeC c (y - (l.1 : Rat) * l.2) - (l.1 : Rat) = placeC c (y - (l.1 : Rat) * l.2) by grind, this]
      grind
    · have e : placeC (l :: c) y = y / l.2 := by
        show (if (l.1 : Rat) * l.2 < y then _ else _) = _
        rw [if_neg hlt]
      have d0 := h1.d0
      have p := h1.pos
      have ez : y = y / l.2 * l.2 := by grind
      have hz : ¬ (l.1 : Rat) < y / l.2 := fun z => by
        have := Rat.mul_pos (show 0 < y / l.2 - (l.1 : Rat) by grind) p
        grind
      rw [e, if_neg hz]
      exact ez.symm
theorem placeC_dragC : ∀ (c : List Ln) (x : Rat), (∀ l ∈ c, GoodL l) → 0 ≤ x → x ≤ ((stepsC c : Nat) : Rat) → placeC c (dragC c x) = x
  | [], x, _, hx, hw => by
    have : ((stepsC [] : Nat) : Rat) = 0 := rfl
    show (0 : Rat) = x
    grind
  | l :: c, x, h, hx, hw => by
    obtain ⟨h1, h2⟩ := tl_good h
    rw [steps_cons] at hw
    show (if (l.1 : Rat) * l.2 < dragC (l :: c) x then (l.1 : Rat) + placeC c (dragC (l :: c) x - (l.1 : Rat) * l.2) else dragC (l :: c) x / l.2) = x
    by_cases hlt : (l.1 : Rat) < x
    · have e : dragC (l :: c) x = (l.1 : Rat) * l.2 + dragC c (x - (l.1 : Rat)) := by
        show (if (l.1 : Rat) < x then _ else _) = _
        rw [if_pos hlt]
      have p := dragC_pos c (x - (l.1 : Rat)) h2 (by grind) (by grind)
      rw [if_pos (by rw [e]; grind), e]
      have := placeC_dragC c (x - (l.1 : Rat)) h2 (by grind) (by grind)
      rw [show (l.1 : Rat) * l.2 + dragC c (x - (l.1 : Rat)) - (l.1 : Rat) * l.2 = dragC c (x - (l.1 : Rat)) by grind, this]
      grind
    · have e : dragC (l :: c) x = x * l.2 := by
        show (if (l.1 : Rat) < x then _ else _) = _
        rw [if_neg hlt]
      have d0 := h1.d0
      have hz : ¬ (l.1 : Rat) * l.2 < x * l.2 := fun z => by
        have := Rat.mul_nonneg (show 0 ≤ (l.1 : Rat) - x by grind) (Rat.le_of_lt h1.pos)
        grind
      rw [e, if_neg hz]
      grind
theorem dragC_mono : ∀ (c : List Ln) (x y : Rat), (∀ l ∈ c, GoodL l) → 0 ≤ x → x ≤ y → dragC c x ≤ dragC c y
  | [], _, _, _, _, _ => Rat.le_refl
  | l :: c, x, y, h, h0, hxy => by
    obtain ⟨h1, h2⟩ := tl_good h
    have hp := h1.sdp
    show (if (l.1 : Rat) < x then (l.1 : Rat) * l.2 + dragC c (x - (l.1 : Rat)) else x * l.2) ≤ (if (l.1 : Rat) < y then (l.1 : Rat) * l.2 + dragC c (y - (l.1 : Rat)) else y * l.2)
    by_cases hx : (l.1 : Rat) < x
    · have hy : (l.1 : Rat) < y := by grind
      rw [if_pos hx, if_pos hy]
      have := dragC_mono c (x - (l.1 : Rat)) (y - (l.1 : Rat)) h2 (by grind) (by grind)
      grind
    · rw [if_neg hx]
      by_cases hy : (l.1 : Rat) < y
      · rw [if_pos hy]
        have a := (dragC_bd c (y - (l.1 : Rat)) h2 (by grind)).1
        have b := Rat.mul_nonneg (show 0 ≤ (l.1 : Rat) - x by grind) (Rat.le_of_lt h1.pos)
        grind
      · rw [if_neg hy]
        have b := Rat.mul_nonneg (show 0 ≤ y - x by grind) (Rat.le_of_lt h1.pos)
        grind
/-! sizes: loose ones for the way, tight ones for the readings -/
theorem sz_placeC : ∀ (c : List Ln) (y : Rat) (m : Nat), (∀ l ∈ c, GoodL l) → Sz m y → Sz (m + 26 * c.length + 10) (placeC c y)
  | [], _, m, _, _ => sz_zero (by omega)
  | l :: c, y, m, h, hy => by
    obtain ⟨h1, h2⟩ := tl_good h
    show Sz _ (if (l.1 : Rat) * l.2 < y then (l.1 : Rat) + placeC c (y - (l.1 : Rat) * l.2) else y / l.2)
    rw [List.length_cons]
    by_cases hlt : (l.1 : Rat) * l.2 < y
    · rw [if_pos hlt]
      exact (h1.sn.add (sz_placeC c _ _ h2 (hy.sub (h1.sn.mul h1.sd)))).mono (by omega)
    · rw [if_neg hlt]
      exact (hy.div h1.sd h1.d0).mono (by omega)
theorem sz_dragC : ∀ (c : List Ln) (x : Rat) (m : Nat), (∀ l ∈ c, GoodL l) → Sz m x → Sz (m + 26 * c.length + 10) (dragC c x)
  | [], _, m, _, _ => sz_zero (by omega)
  | l :: c, x, m, h, hx => by
    obtain ⟨h1, h2⟩ := tl_good h
    show Sz _ (if (l.1 : Rat) < x then (l.1 : Rat) * l.2 + dragC c (x - (l.1 : Rat)) else x * l.2)
    rw [List.length_cons]
    by_cases hlt : (l.1 : Rat) < x
    · rw [if_pos hlt]
      exact ((h1.sn.mul h1.sd).add (sz_dragC c _ _ h2 (hx.sub h1.sn))).mono (by omega)
    · rw [if_neg hlt]
      exact (hx.mul h1.sd).mono (by omega)
end Ea

namespace Ea
/-! ### measures -/
inductive W4 where
  | wf | ef | we | ee
  deriving DecidableEq
def W4.free : W4 → Bool
  | .wf => true | .ef => true | .we => false | .ee => false
def W4.east : W4 → Bool
  | .wf => false | .ef => true | .we => false | .ee => true
def near (w : W4) (n f : Rat) : Rat := if w.east then f else n
def far (w : W4) (n f : Rat) : Rat := if w.east then n else f
def par (g f : Rat) : Rat := g * f / (g + f)
/-- what a word reads of a leak g, n from the west end, f from the east one -/
def rd (w : W4) (n f g : Rat) : Rat := if w.free then near w n f + g else near w n f + par g (far w n f)
/-- the leak's drag by a reading -/
def dw (w : W4) (nr fr t : Rat) : Option Rat := if ¬ 0 < t - nr then none else if w.free = true then some (t - nr) else if ¬ t - nr < fr then none else some ((t - nr) * fr / (fr - (t - nr)))
theorem par_eq {g f : Rat} (hg : 0 < g) (hf : 0 ≤ f) : par g f * (g + f) = g * f := by
  have : g + f ≠ 0 := by grind
  unfold par; grind
theorem par_nn {g f : Rat} (hg : 0 < g) (hf : 0 ≤ f) : 0 ≤ par g f := by
  have e := par_eq hg hf
  by_cases h : 0 ≤ par g f
  · exact h
  · have a := Rat.mul_pos (show 0 < -par g f by grind) (show 0 < g + f by grind)
    have b := Rat.mul_nonneg (Rat.le_of_lt hg) hf
    grind
theorem par_pos {g f : Rat} (hg : 0 < g) (hf : 0 < f) : 0 < par g f ∧ par g f < f ∧ par g f < g := by
  have e := par_eq hg (Rat.le_of_lt hf)
  have a := Rat.mul_pos hg hf
  have nn := par_nn hg (Rat.le_of_lt hf)
  have p0 : par g f ≠ 0 := fun z => by rw [z] at e; grind
  refine ⟨by grind, ?_, ?_⟩
  · by_cases h : par g f < f
    · exact h
    · have b := Rat.mul_nonneg (show 0 ≤ par g f - f by grind) (show 0 ≤ g + f by grind)
      have c := Rat.mul_pos hf hf
      grind
  · by_cases h : par g f < g
    · exact h
    · have b := Rat.mul_nonneg (show 0 ≤ par g f - g by grind) (show 0 ≤ g + f by grind)
      have c := Rat.mul_pos hg hg
      grind
theorem near_nn {w : W4} {n f : Rat} (hn : 0 ≤ n) (hf : 0 ≤ f) : 0 ≤ near w n f := by unfold near; split <;> assumption
theorem far_nn {w : W4} {n f : Rat} (hn : 0 ≤ n) (hf : 0 ≤ f) : 0 ≤ far w n f := by unfold far; split <;> assumption
theorem rd_nn {w : W4} {n f g : Rat} (hn : 0 ≤ n) (hf : 0 ≤ f) (hg : 0 < g) : 0 ≤ rd w n f g := by
  have h1 := near_nn (w := w) hn hf
  have h2 := par_nn hg (far_nn (w := w) hn hf)
  unfold rd
  split <;> grind
/-- the drag that is told makes the reading -/
theorem dw_is {w : W4} {n f t g : Rat} (hn : 0 ≤ n) (hf : 0 ≤ f) (h : dw w (near w n f) (far w n f) t = some g) : 0 < g ∧ rd w n f g = t := by
  have hf' := far_nn (w := w) hn hf
  have e : rd w n f g = if w.free then near w n f + g else near w n f + par g (far w n f) := rfl
  generalize near w n f = nr at *
  generalize far w n f = fr at *
  rw [e]
  unfold dw at h
  by_cases h0 : 0 < t - nr
  · rw [if_neg (fun z => z h0)] at h
    cases hw : w.free with
    | true =>
      rw [hw, if_pos rfl] at h
      cases h
      rw [if_pos rfl]
      exact ⟨h0, by grind⟩
    | false =>
      rw [hw, if_neg Bool.false_ne_true] at h
      rw [if_neg Bool.false_ne_true]
      by_cases h1 : t - nr < fr
      · rw [if_neg (fun z => z h1)] at h
        have eg := Option.some.inj h
        have hd : 0 < fr - (t - nr) := by grind
        have hd' : fr - (t - nr) ≠ 0 := by grind
        have eg2 : g * (fr - (t - nr)) = (t - nr) * fr := by rw [← eg]; grind
        have hfp : 0 < fr := by grind
        have hp := Rat.mul_pos h0 hfp
        have gp : 0 < g := by
          by_cases z : 0 < g
          · exact z
          · have := Rat.mul_nonneg (show 0 ≤ -g by grind) (Rat.le_of_lt hd)
            grind
        refine ⟨gp, ?_⟩
        have e3 := par_eq gp (Rat.le_of_lt hfp)
        have hs : g + fr ≠ 0 := by grind
        have : par g fr = t - nr := by
          have z : (par g fr - (t - nr)) * (g + fr) = 0 := by grind
          rcases Rat.mul_eq_zero.mp z with y | y
          · grind
          · exact absurd y hs
        grind
      · rw [if_pos h1] at h
        cases h
  · rw [if_pos h0] at h
    cases h
/-- a leak that makes the reading is told, but by a measure to earth at the far end -/
theorem dw_of {w : W4} {n f g : Rat} (hn : 0 ≤ n) (hf : 0 ≤ f) (hg : 0 < g) (h : w.free = true ∨ 0 < far w n f) : dw w (near w n f) (far w n f) (rd w n f g) = some g := by
  have e : rd w n f g = if w.free then near w n f + g else near w n f + par g (far w n f) := rfl
  rw [e]
  generalize near w n f = nr at *
  generalize far w n f = fr at *
  unfold dw
  cases hw : w.free with
  | true =>
    rw [if_pos rfl, if_neg (fun z => z (by grind)), if_pos rfl]
    congr 1; grind
  | false =>
    rcases h with h | h
    · rw [hw] at h; cases h
    rw [if_neg Bool.false_ne_true, if_neg Bool.false_ne_true]
    obtain ⟨p1, p2, p3⟩ := par_pos hg h
    have e1 : nr + par g fr - nr = par g fr := by grind
    rw [e1, if_neg (fun z => z p1), if_neg (fun z => z p2)]
    have e3 := par_eq hg (Rat.le_of_lt h)
    have hd : fr - par g fr ≠ 0 := by grind
    congr 1
    grind
theorem dw_none {w : W4} {n f g : Rat} (hn : 0 ≤ n) (hf : 0 ≤ f) (hg : 0 < g) (h : w.free = false) (h0 : far w n f = 0) : dw w (near w n f) (far w n f) (rd w n f g) = none := by
  have e : rd w n f g = if w.free then near w n f + g else near w n f + par g (far w n f) := rfl
  rw [e, h, if_neg Bool.false_ne_true, h0]
  have : par g 0 = 0 := by unfold par; grind
  unfold dw
  rw [if_pos]
  rw [this]; grind
/-! ### one leak by two measures -/
/-- a leak as the ends see it: n from the west end of W in all, g its drag -/
structure Lk (W n g : Rat) : Prop where
  n0 : 0 ≤ n
  n1 : n ≤ W
  g0 : 0 < g
theorem root_wf_we {W n g : Rat} (h : Lk W n g) : IsRoot ((rd .wf n (W - n) g - rd .we n (W - n) g) * (W - rd .we n (W - n) g)) (rd .we n (W - n) g - n) := by
  obtain ⟨h0, h1, h2⟩ := h
  have hf : 0 ≤ W - n := by grind
  have e := par_eq h2 hf
  have p := par_nn h2 hf
  show IsRoot ((n + g - (n + par g (W - n))) * (W - (n + par g (W - n)))) (n + par g (W - n) - n)
  exact ⟨by grind, by grind⟩
theorem root_ef_ee {W n g : Rat} (h : Lk W n g) : IsRoot ((rd .ef n (W - n) g - rd .ee n (W - n) g) * (W - rd .ee n (W - n) g)) (rd .ee n (W - n) g - (W - n)) := by
  obtain ⟨h0, h1, h2⟩ := h
  have e := par_eq h2 h0
  have p := par_nn h2 h0
  show IsRoot ((W - n + g - (W - n + par g n)) * (W - (W - n + par g n))) (W - n + par g n - (W - n))
  exact ⟨by grind, by grind⟩
theorem root_wf_ee {W n g : Rat} (h : Lk W n g) : IsRoot (rd .wf n (W - n) g * (W - rd .ee n (W - n) g)) n := by
  obtain ⟨h0, h1, h2⟩ := h
  have e := par_eq h2 h0
  show IsRoot ((n + g) * (W - (W - n + par g n))) n
  exact ⟨h0, by grind⟩
theorem root_ef_we {W n g : Rat} (h : Lk W n g) : IsRoot (rd .ef n (W - n) g * (W - rd .we n (W - n) g)) (W - n) := by
  obtain ⟨h0, h1, h2⟩ := h
  have hf : 0 ≤ W - n := by grind
  have e := par_eq h2 hf
  show IsRoot ((W - n + g) * (W - (n + par g (W - n)))) (W - n)
  exact ⟨hf, by grind⟩
/-- p (g + f) = f f, q (g + n) = n n -/
theorem earths {W n g : Rat} (h : Lk W n g) : (W - rd .we n (W - n) g) * (g + (W - n)) = (W - n) * (W - n) ∧ (W - rd .ee n (W - n) g) * (g + n) = n * n := by
  obtain ⟨h0, h1, h2⟩ := h
  have hf : 0 ≤ W - n := by grind
  have e1 := par_eq h2 hf
  have e2 := par_eq h2 h0
  constructor
  · show (W - (n + par g (W - n))) * (g + (W - n)) = _
    grind
  · show (W - (W - n + par g n)) * (g + n) = _
    grind
theorem mono_sq {f f' p : Rat} (hp : 0 < p) (h1 : p < f) (h2 : f < f') : f * (f - p) < f' * (f' - p) := by
  have a := Rat.mul_pos (show 0 < f' - f by grind) (show 0 < f' + f - p by grind)
  grind
/-- from the farther one: f above p -/
theorem sq_pos {f g p : Rat} (hf : 0 ≤ f) (hg : 0 < g) (hp : 0 < p) (e : p * (g + f) = f * f) : p < f := by
  by_cases h : p < f
  · exact h
  · have a := Rat.mul_pos hp hg
    have b := Rat.mul_nonneg (show 0 ≤ p - f by grind) hf
    grind
theorem earths_le {W n g n' g' : Rat} (h : Lk W n g) (h' : Lk W n' g') (e1 : rd .we n (W - n) g = rd .we n' (W - n') g') (e2 : rd .ee n (W - n) g = rd .ee n' (W - n') g') (hl : n < n') : False := by
  obtain ⟨a1, a2⟩ := earths h
  obtain ⟨b1, b2⟩ := earths h'
  rw [← e1] at b1
  rw [← e2] at b2
  generalize W - rd .we n (W - n) g = p at *
  generalize W - rd .ee n (W - n) g = q at *
  obtain ⟨h0, h1, h2⟩ := h
  obtain ⟨h0', h1', h2'⟩ := h'
  -- n < n', so f > f'
  have hf : 0 < W - n := by grind
  have hp : 0 < p := by
    by_cases z : 0 < p
    · exact z
    · have c1 := Rat.mul_nonneg (show 0 ≤ -p by grind) (show 0 ≤ g + (W - n) by grind)
      have c2 := Rat.mul_pos hf hf
      grind
  have hn' : 0 < n' := by grind
  have hq : 0 < q := by
    by_cases z : 0 < q
    · exact z
    · have c1 := Rat.mul_nonneg (show 0 ≤ -q by grind) (show 0 ≤ g' + n' by grind)
      have c2 := Rat.mul_pos hn' hn'
      grind
  have hf' : 0 ≤ W - n' := by grind
  have pf' := sq_pos hf' h2' hp b1
  have qn := sq_pos h0 h2 hq a2
  have m1 := mono_sq hp pf' (show W - n' < W - n by grind)
  have m2 := mono_sq hq qn hl
  have k1 : p * g' < p * g := by grind
  have k2 : q * g < q * g' := by grind
  have l1 := (Rat.mul_lt_mul_left hp).mp k1
  have l2 := (Rat.mul_lt_mul_left hq).mp k2
  grind
/-- the drag follows from the place -/
theorem same_g {W n g g' : Rat} {w v : W4} (hW : 0 < W) (h : Lk W n g) (h' : Lk W n g') (hwv : w ≠ v) (e1 : rd w n (W - n) g = rd w n (W - n) g') (e2 : rd v n (W - n) g = rd v n (W - n) g') : g = g' := by
  have hf : 0 ≤ W - n := by have := h.n1; grind
  have key : ∀ u : W4, (u.free = true ∨ 0 < far u n (W - n)) → rd u n (W - n) g = rd u n (W - n) g' → g = g' := fun u hu e => by
    have a := dw_of (w := u) h.n0 hf h.g0 hu
    have b := dw_of (w := u) h.n0 hf h'.g0 hu
    rw [e] at a
    exact Option.some.inj (a.symm.trans b)
  by_cases c : w.free = true ∨ 0 < far w n (W - n)
  · exact key w c e1
  · by_cases d : v.free = true ∨ 0 < far v n (W - n)
    · exact key v d e2
    · have h0 := h.n0
      have h1 := h.n1
      cases w <;> cases v <;> simp_all [W4.free, far, W4.east] <;> grind
theorem uniq {W n g n' g' : Rat} {w v : W4} (hW : 0 < W) (h : Lk W n g) (h' : Lk W n' g') (hwv : w ≠ v) (e1 : rd w n (W - n) g = rd w n' (W - n') g') (e2 : rd v n (W - n) g = rd v n' (W - n') g') : n = n' ∧ g = g' := by
  have hn : n = n' := by
    have ea : ∀ {n g n' g' : Rat}, Lk W n g → Lk W n' g' → rd .we n (W - n) g = rd .we n' (W - n') g' → rd .ee n (W - n) g = rd .ee n' (W - n') g' → n = n' := fun {n g n' g'} k k' a b => by
      by_cases l : n < n'
      · exact (earths_le k k' a b l).elim
      · by_cases l' : n' < n
        · exact (earths_le k' k a.symm b.symm l').elim
        · grind
    have fe : ∀ {n g n' g' : Rat}, Lk W n g → Lk W n' g' → rd .wf n (W - n) g = rd .wf n' (W - n') g' → rd .we n (W - n) g = rd .we n' (W - n') g' → n = n' := fun {n g n' g'} k k' a b => by
      have r1 := root_wf_we k
      have r2 := root_wf_we k'
      rw [← a, ← b] at r2
      have := root_uniq r1 r2
      grind
    have fe' : ∀ {n g n' g' : Rat}, Lk W n g → Lk W n' g' → rd .ef n (W - n) g = rd .ef n' (W - n') g' → rd .ee n (W - n) g = rd .ee n' (W - n') g' → n = n' := fun {n g n' g'} k k' a b => by
      have r1 := root_ef_ee k
      have r2 := root_ef_ee k'
      rw [← a, ← b] at r2
      have := root_uniq r1 r2
      grind
    have fo : ∀ {n g n' g' : Rat}, Lk W n g → Lk W n' g' → rd .wf n (W - n) g = rd .wf n' (W - n') g' → rd .ee n (W - n) g = rd .ee n' (W - n') g' → n = n' := fun {n g n' g'} k k' a b => by
      have r1 := root_wf_ee k
      have r2 := root_wf_ee k'
      rw [← a, ← b] at r2
      exact root_uniq r1 r2
    have fo' : ∀ {n g n' g' : Rat}, Lk W n g → Lk W n' g' → rd .ef n (W - n) g = rd .ef n' (W - n') g' → rd .we n (W - n) g = rd .we n' (W - n') g' → n = n' := fun {n g n' g'} k k' a b => by
      have r1 := root_ef_we k
      have r2 := root_ef_we k'
      rw [← a, ← b] at r2
      have := root_uniq r1 r2
      grind
    have ff : ∀ {n g n' g' : Rat}, rd .wf n (W - n) g = rd .wf n' (W - n') g' → rd .ef n (W - n) g = rd .ef n' (W - n') g' → n = n' := fun {n g n' g'} a b => by
      have a' : n + g = n' + g' := a
      have b' : W - n + g = W - n' + g' := b
      grind
    cases w <;> cases v
    · exact absurd rfl hwv
    · exact ff e1 e2
    · exact fe h h' e1 e2
    · exact fo h h' e1 e2
    · exact ff e2 e1
    · exact absurd rfl hwv
    · exact fo' h h' e1 e2
    · exact fe' h h' e1 e2
    · exact fe h h' e2 e1
    · exact fo' h h' e2 e1
    · exact absurd rfl hwv
    · exact ea h h' e1 e2
    · exact fo h h' e2 e1
    · exact fe' h h' e2 e1
    · exact ea h h' e2 e1
    · exact absurd rfl hwv
  subst hn
  exact ⟨rfl, same_g hW h h' hwv e1 e2⟩
/-! ### where the leak may lie -/
noncomputable def candFE (W a e : Rat) : List Rat := match sqR ((a - e) * (W - e)) with
  | some r => [e - r]
  | none => []
noncomputable def candFO (W a h : Rat) : List Rat := match sqR (a * (W - h)) with
  | some r => [r]
  | none => []
noncomputable def candEE (W e h : Rat) : List Rat :=
  if W - e = 0 ∨ W - h = 0 then [0, W] else if W - e = W - h then [W / 2] else
    match sqR ((W - e) * (W - h) * ((W - (W - e)) * (W - (W - h)))) with
    | some r => [((W - h) * (W - (W - e)) + r) / (W - h - (W - e)), ((W - h) * (W - (W - e)) - r) / (W - h - (W - e))]
    | none => []
/-- by the words' set: r tells the readings -/
noncomputable def cand (W : Rat) (w v : W4) (r : W4 → Rat) : List Rat := match w, v with
  | .wf, .ef => [(W + r .wf - r .ef) / 2]
  | .ef, .wf => [(W + r .wf - r .ef) / 2]
  | .we, .ee => candEE W (r .we) (r .ee)
  | .ee, .we => candEE W (r .we) (r .ee)
  | .wf, .we => candFE W (r .wf) (r .we)
  | .we, .wf => candFE W (r .wf) (r .we)
  | .wf, .ee => candFO W (r .wf) (r .ee)
  | .ee, .wf => candFO W (r .wf) (r .ee)
  | .ef, .ee => (candFE W (r .ef) (r .ee)).map (W - ·)
  | .ee, .ef => (candFE W (r .ef) (r .ee)).map (W - ·)
  | .ef, .we => (candFO W (r .ef) (r .we)).map (W - ·)
  | .we, .ef => (candFO W (r .ef) (r .we)).map (W - ·)
  | _, _ => []
theorem candEE_mem {W n g : Rat} (hW : 0 < W) (h : Lk W n g) : n ∈ candEE W (rd .we n (W - n) g) (rd .ee n (W - n) g) := by
  obtain ⟨a1, a2⟩ := earths h
  obtain ⟨h0, h1, h2⟩ := h
  unfold candEE
  generalize rd .we n (W - n) g = e at *
  generalize rd .ee n (W - n) g = hh at *
  by_cases c : W - e = 0 ∨ W - hh = 0
  · rw [if_pos c]
    rcases c with c | c
    · have z : (W - n) * (W - n) = 0 := by rw [← a1, c]; grind
      have : W - n = 0 := by rcases Rat.mul_eq_zero.mp z with y | y <;> exact y
      have : n = W := by grind
      rw [this]; simp
    · have z : n * n = 0 := by rw [← a2, c]; grind
      have : n = 0 := by rcases Rat.mul_eq_zero.mp z with y | y <;> exact y
      rw [this]; simp
  · rw [if_neg c]
    have hp : W - e ≠ 0 := fun z => c (.inl z)
    have hq : W - hh ≠ 0 := fun z => c (.inr z)
    generalize hpe : W - e = p at *
    generalize hqe : W - hh = q at *
    -- q f f - p q f - p n n + p q n = 0
    have E : (q - p) * (n * n) - 2 * q * (W - p) * n + q * W * (W - p) = 0 := by grind
    by_cases c2 : p = q
    · rw [if_pos c2]
      subst c2
      have k : p * (W - p) * (W - 2 * n) = 0 := by grind
      have hpp : W - p ≠ 0 := fun z => by
        -- then e = 0: n and what lies beside it would be 0
        have hWp : p = W := by grind
        rw [hWp] at a1 a2
        have b1 := Rat.mul_pos hW h2
        have b2 := Rat.mul_nonneg h0 (show 0 ≤ W - n by grind)
        grind
      rcases Rat.mul_eq_zero.mp k with y | y
      · rcases Rat.mul_eq_zero.mp y with z | z
        · exact absurd z hp
        · exact absurd z hpp
      · have : n = W / 2 := by grind
        rw [this]; simp
    · rw [if_neg c2]
      have hd : q - p ≠ 0 := fun z => c2 (by grind)
      have sq : ((q - p) * n - q * (W - p)) * ((q - p) * n - q * (W - p)) = p * q * ((W - p) * (W - q)) := by grind
      by_cases sg : 0 ≤ (q - p) * n - q * (W - p)
      · rw [sqR_some (r := (q - p) * n - q * (W - p)) ⟨sg, sq⟩]
        have : n = (q * (W - p) + ((q - p) * n - q * (W - p))) / (q - p) := by grind
        exact List.mem_cons.mpr (.inl this)
      · rw [sqR_some (r := -((q - p) * n - q * (W - p))) ⟨by grind, by grind⟩]
        have : n = (q * (W - p) - -((q - p) * n - q * (W - p))) / (q - p) := by grind
        exact List.mem_cons.mpr (.inr (List.mem_cons.mpr (.inl this)))
theorem cand_mem {W n g : Rat} {w v : W4} {r : W4 → Rat} (hW : 0 < W) (h : Lk W n g) (hwv : w ≠ v) (e1 : rd w n (W - n) g = r w) (e2 : rd v n (W - n) g = r v) : n ∈ cand W w v r := by
  have ff : ∀ {a b : Rat}, rd .wf n (W - n) g = a → rd .ef n (W - n) g = b → n ∈ [(W + a - b) / 2] := fun {a b} h1 h2 => by
    have a' : n + g = a := h1
    have b' : W - n + g = b := h2
    have : n = (W + a - b) / 2 := by grind
    rw [← this]; simp
  have ee : ∀ {a b : Rat}, rd .we n (W - n) g = a → rd .ee n (W - n) g = b → n ∈ candEE W a b := fun {a b} h1 h2 => by rw [← h1, ← h2]; exact candEE_mem hW h
  have fe : ∀ {a b : Rat}, rd .wf n (W - n) g = a → rd .we n (W - n) g = b → n ∈ candFE W a b := fun {a b} h1 h2 => by
    have q := root_wf_we h
    rw [h1, h2] at q
    unfold candFE
    rw [sqR_some q]
    have : n = b - (b - n) := by grind
    exact List.mem_cons.mpr (.inl this)
  have fe' : ∀ {a b : Rat}, rd .ef n (W - n) g = a → rd .ee n (W - n) g = b → n ∈ (candFE W a b).map (W - ·) := fun {a b} h1 h2 => by
    have q := root_ef_ee h
    rw [h1, h2] at q
    unfold candFE
    rw [sqR_some q]
    have : n = W - (b - (b - (W - n))) := by grind
    exact List.mem_cons.mpr (.inl this)
  have fo : ∀ {a b : Rat}, rd .wf n (W - n) g = a → rd .ee n (W - n) g = b → n ∈ candFO W a b := fun {a b} h1 h2 => by
    have q := root_wf_ee h
    rw [h1, h2] at q
    unfold candFO
    rw [sqR_some q]
    simp
  have fo' : ∀ {a b : Rat}, rd .ef n (W - n) g = a → rd .we n (W - n) g = b → n ∈ (candFO W a b).map (W - ·) := fun {a b} h1 h2 => by
    have q := root_ef_we h
    rw [h1, h2] at q
    unfold candFO
    rw [sqR_some q]
    have : n = W - (W - n) := by grind
    exact List.mem_cons.mpr (.inl this)
  cases w <;> cases v
  · exact absurd rfl hwv
  · exact ff e1 e2
  · exact fe e1 e2
  · exact fo e1 e2
  · exact ff e2 e1
  · exact absurd rfl hwv
  · exact fo' e1 e2
  · exact fe' e1 e2
  · exact fe e2 e1
  · exact fo' e2 e1
  · exact absurd rfl hwv
  · exact ee e1 e2
  · exact fo e2 e1
  · exact fe' e2 e1
  · exact ee e2 e1
  · exact absurd rfl hwv
end Ea

namespace Ea
/-! ### the one leak that is told -/
def tryW (c : List Ln) (w v : W4) (r : W4 → Rat) (x : Rat) (u : W4) : Option (Rat × Rat) := match dw u (near u x (wholeC c - x)) (far u x (wholeC c - x)) (r u) with
  | some g => if rd w x (wholeC c - x) g = r w ∧ rd v x (wholeC c - x) g = r v then some (placeC c x, g) else none
  | none => none
def lw (c : List Ln) (w v : W4) (r : W4 → Rat) (x : Rat) : Option (Rat × Rat) := if ¬ 0 ≤ x ∨ wholeC c < x then none else match tryW c w v r x w with
  | some l => some l
  | none => tryW c w v r x v
noncomputable def oneLk (c : List Ln) (w v : W4) (r : W4 → Rat) : Option (Rat × Rat) := (cand (wholeC c) w v r).findSome? (lw c w v r)
/-- a leak of the cable -/
structure LeakC (c : List Ln) (x g : Rat) : Prop where
  x0 : 0 ≤ x
  x1 : x ≤ ((stepsC c : Nat) : Rat)
  g0 : 0 < g
theorem LeakC.lk {c : List Ln} {bk x g : Rat} (hc : GoodC c bk) (h : LeakC c x g) : Lk (wholeC c) (dragC c x) g := by
  have := dragC_bd c x hc.all h.x0
  exact ⟨this.1, this.2, h.g0⟩
/-- what a word reads of a leak of the cable -/
def rdC (c : List Ln) (w : W4) (x g : Rat) : Rat := rd w (dragC c x) (wholeC c - dragC c x) g
theorem try_sound {c : List Ln} {bk : Rat} {w v u : W4} {r : W4 → Rat} {y x g : Rat} (hc : GoodC c bk) (h0 : 0 ≤ y) (h1 : y ≤ wholeC c) (h : tryW c w v r y u = some (x, g)) : x = placeC c y ∧ LeakC c x g ∧ rdC c w x g = r w ∧ rdC c v x g = r v := by
  unfold tryW at h
  have hf : 0 ≤ wholeC c - y := by grind
  cases e : dw u (near u y (wholeC c - y)) (far u y (wholeC c - y)) (r u) with
  | none => rw [e] at h; cases h
  | some g2 =>
    rw [e] at h
    obtain ⟨g0, _⟩ := dw_is h0 hf e
    by_cases k : rd w y (wholeC c - y) g2 = r w ∧ rd v y (wholeC c - y) g2 = r v
    · have h' : (if rd w y (wholeC c - y) g2 = r w ∧ rd v y (wholeC c - y) g2 = r v then some (placeC c y, g2) else none) = some (x, g) := h
      rw [if_pos k] at h'
      cases h'
      have b := placeC_bd c y hc.all h0 h1
      have e2 := dragC_placeC c y hc.all h0 h1
      refine ⟨rfl, ⟨b.1, b.2, g0⟩, ?_, ?_⟩
      · unfold rdC; rw [e2]; exact k.1
      · unfold rdC; rw [e2]; exact k.2
    · have h' : (if rd w y (wholeC c - y) g2 = r w ∧ rd v y (wholeC c - y) g2 = r v then some (placeC c y, g2) else none) = some (x, g) := h
      rw [if_neg k] at h'
      cases h'
theorem lw_sound {c : List Ln} {bk : Rat} {w v : W4} {r : W4 → Rat} {y x g : Rat} (hc : GoodC c bk) (h : lw c w v r y = some (x, g)) : LeakC c x g ∧ rdC c w x g = r w ∧ rdC c v x g = r v := by
  unfold lw at h
  by_cases k : ¬ 0 ≤ y ∨ wholeC c < y
  · rw [if_pos k] at h; cases h
  · rw [if_neg k] at h
    have h0 : 0 ≤ y := by
      by_cases z : 0 ≤ y
      · exact z
      · exact absurd (.inl z) k
    have h1 : y ≤ wholeC c := Rat.not_lt.mp fun z => k (.inr z)
    cases e : tryW c w v r y w with
    | some l =>
      rw [e] at h
      cases h
      exact (try_sound hc h0 h1 e).2
    | none =>
      rw [e] at h
      exact (try_sound hc h0 h1 h).2
theorem one_sound {c : List Ln} {bk : Rat} {w v : W4} {r : W4 → Rat} {x g : Rat} (hc : GoodC c bk) (h : oneLk c w v r = some (x, g)) : LeakC c x g ∧ rdC c w x g = r w ∧ rdC c v x g = r v := by
  obtain ⟨y, _, e⟩ := List.exists_of_findSome?_eq_some h
  exact lw_sound hc e
theorem leak_uniq {c : List Ln} {bk x g x' g' : Rat} {w v : W4} (hc : GoodC c bk) (h : LeakC c x g) (h' : LeakC c x' g') (hwv : w ≠ v) (e1 : rdC c w x g = rdC c w x' g') (e2 : rdC c v x g = rdC c v x' g') : x = x' ∧ g = g' := by
  obtain ⟨a, b⟩ := uniq (wholeC_pos hc) (h.lk hc) (h'.lk hc) hwv e1 e2
  refine ⟨?_, b⟩
  rw [← placeC_dragC c x hc.all h.x0 h.x1, a, placeC_dragC c x' hc.all h'.x0 h'.x1]
theorem one_complete {c : List Ln} {bk : Rat} {w v : W4} {r : W4 → Rat} {x g : Rat} (hc : GoodC c bk) (h : LeakC c x g) (hwv : w ≠ v) (e1 : rdC c w x g = r w) (e2 : rdC c v x g = r v) : oneLk c w v r = some (x, g) := by
  have hW := wholeC_pos hc
  have lk := h.lk hc
  have mem := cand_mem hW lk hwv e1 e2
  have hf : 0 ≤ wholeC c - dragC c x := by have := lk.n1; grind
  -- the turn at the leak's own place tells a leak
  have own : ∃ l, lw c w v r (dragC c x) = some l := by
    unfold lw
    rw [if_neg (fun z => z.elim (fun z => z lk.n0) fun z => Rat.not_lt.mpr lk.n1 z)]
    have key : ∀ u : W4, u = w ∨ u = v → (u.free = true ∨ 0 < far u (dragC c x) (wholeC c - dragC c x)) → tryW c w v r (dragC c x) u = some (placeC c (dragC c x), g) := fun u hu hd => by
      have d := dw_of (w := u) lk.n0 hf h.g0 hd
      unfold tryW
      have er : r u = rd u (dragC c x) (wholeC c - dragC c x) g := by
        rcases hu with z | z
        · rw [z]; exact e1.symm
        · rw [z]; exact e2.symm
      rw [er, d]
      exact if_pos ⟨e1, e2⟩
    by_cases d : w.free = true ∨ 0 < far w (dragC c x) (wholeC c - dragC c x)
    · rw [key w (.inl rfl) d]
      exact ⟨_, rfl⟩
    · have d2 : v.free = true ∨ 0 < far v (dragC c x) (wholeC c - dragC c x) := by
        by_cases z : v.free = true ∨ 0 < far v (dragC c x) (wholeC c - dragC c x)
        · exact z
        · have n0 := lk.n0
          have n1 := lk.n1
          generalize dragC c x = n at *
          cases w <;> cases v <;> simp_all [W4.free, far, W4.east] <;> grind
      cases e : tryW c w v r (dragC c x) w with
      | some l => exact ⟨l, rfl⟩
      | none => exact ⟨_, key v (.inr rfl) d2⟩
  cases e : oneLk c w v r with
  | none =>
    obtain ⟨l, hl⟩ := own
    have := List.findSome?_eq_none_iff.mp e _ mem
    rw [hl] at this
    cases this
  | some l =>
    obtain ⟨x', g'⟩ := l
    obtain ⟨s1, s2, s3⟩ := one_sound hc e
    obtain ⟨a, b⟩ := leak_uniq hc h s1 hwv (e1.trans s2.symm) (e2.trans s3.symm)
    rw [a, b]
/-- the words in the other turn tell the same -/
theorem one_swap {c : List Ln} {bk : Rat} {w v : W4} {r : W4 → Rat} (hc : GoodC c bk) (hwv : w ≠ v) : oneLk c w v r = oneLk c v w r := by
  cases e : oneLk c w v r with
  | some l =>
    obtain ⟨x, g⟩ := l
    obtain ⟨s1, s2, s3⟩ := one_sound hc e
    exact (one_complete hc s1 (Ne.symm hwv) s3 s2).symm
  | none =>
    cases e2 : oneLk c v w r with
    | none => rfl
    | some l =>
      obtain ⟨x, g⟩ := l
      obtain ⟨s1, s2, s3⟩ := one_sound hc e2
      rw [one_complete hc s1 hwv s3 s2] at e
      cases e
/-! ### sizes -/
theorem sq_lt {a k : Nat} (h : a * a < 2 ^ (2 * k)) : a < 2 ^ k := by
  rcases Nat.lt_or_ge a (2 ^ k) with z | z
  · exact z
  · have := Nat.mul_le_mul z z
    rw [← Nat.pow_add] at this
    rw [show k + k = 2 * k by omega] at this
    omega
theorem sz_root {p r : Rat} {k : Nat} (h : IsRoot p r) (hs : Sz (2 * k) p) : Sz k r := by
  obtain ⟨a, b⟩ := root_nd h
  have hn : 0 ≤ r.num := Rat.num_nonneg.mpr h.1
  constructor
  · refine ⟨sq_lt ?_⟩
    have h1 := hs.num.lt
    have e : r.num.natAbs = r.num.toNat := by omega
    rw [e]
    have : p.num.natAbs = r.num.toNat * r.num.toNat := by rw [← a, Int.natAbs_natCast]
    rw [← this]; exact h1
  · refine ⟨sq_lt ?_⟩
    rw [b]; exact hs.den.lt
theorem sz_two : Sz 2 (2 : Rat) := ⟨⟨by decide⟩, ⟨by decide⟩⟩
theorem sz_candFE {W a e : Rat} (hW : Sz 20 W) (ha : Sz 80 a) (he : Sz 80 e) : ∀ x ∈ candFE W a e, Sz 300 x := by
  intro x hx
  unfold candFE at hx
  cases q : sqR ((a - e) * (W - e)) with
  | none => rw [q] at hx; cases hx
  | some r =>
    rw [q] at hx
    have e1 : x = e - r := by simpa using hx
    rw [e1]
    exact (he.sub (sz_root (k := 131) (sqR_is q) (((ha.sub he).mul (hW.sub he)).mono (by decide)))).mono (by decide)
theorem sz_candFO {W a e : Rat} (hW : Sz 20 W) (ha : Sz 80 a) (he : Sz 80 e) : ∀ x ∈ candFO W a e, Sz 300 x := by
  intro x hx
  unfold candFO at hx
  cases q : sqR (a * (W - e)) with
  | none => rw [q] at hx; cases hx
  | some r =>
    rw [q] at hx
    have e1 : x = r := by simpa using hx
    rw [e1]
    exact (sz_root (k := 91) (sqR_is q) ((ha.mul (hW.sub he)).mono (by decide))).mono (by decide)
theorem sz_candEE {W e h : Rat} (hW : Sz 20 W) (he : Sz 80 e) (hh : Sz 80 h) : ∀ x ∈ candEE W e h, Sz 880 x := by
  intro x hx
  unfold candEE at hx
  by_cases c : W - e = 0 ∨ W - h = 0
  · rw [if_pos c] at hx
    rcases List.mem_cons.mp hx with z | z
    · rw [z]; exact sz_zero (by decide)
    · rw [List.mem_singleton.mp z]; exact hW.mono (by decide)
  · rw [if_neg c] at hx
    by_cases c2 : W - e = W - h
    · rw [if_pos c2] at hx
      rw [List.mem_singleton.mp hx]
      exact (hW.div sz_two (by decide)).mono (by decide)
    · rw [if_neg c2] at hx
      have e1 : W - (W - e) = e := by grind
      have e2 : W - (W - h) = h := by grind
      rw [e1, e2] at hx
      have hd : W - h - (W - e) ≠ 0 := fun z => c2 (by grind)
      have p1 : Sz 101 (W - e) := hW.sub he
      have p2 : Sz 101 (W - h) := hW.sub hh
      cases q : sqR ((W - e) * (W - h) * (e * h)) with
      | none => rw [q] at hx; cases hx
      | some r =>
        rw [q] at hx
        have sr : Sz 181 r := sz_root (sqR_is q) (((p1.mul p2).mul (he.mul hh)).mono (by decide))
        have st : Sz 181 ((W - h) * e) := p2.mul he
        have su : Sz 203 (W - h - (W - e)) := p2.sub p1
        rcases List.mem_cons.mp hx with z | z
        · rw [z]; exact ((st.add sr).div su hd).mono (by decide)
        · rw [List.mem_singleton.mp z]; exact ((st.sub sr).div su hd).mono (by decide)
theorem sz_cand {W : Rat} {w v : W4} {r : W4 → Rat} (hW : Sz 20 W) (hr : ∀ u, Sz 80 (r u)) : ∀ x ∈ cand W w v r, Sz 900 x := by
  intro x hx
  have hff : ∀ y ∈ [(W + r .wf - r .ef) / 2], Sz 900 y := fun y hy => by
    rw [List.mem_singleton.mp hy]
    exact (((hW.add (hr _)).sub (hr _)).div sz_two (by decide)).mono (by decide)
  have mp : ∀ l : List Rat, (∀ y ∈ l, Sz 300 y) → ∀ y ∈ l.map (W - ·), Sz 900 y := fun l hl y hy => by
    obtain ⟨z, hz, rfl⟩ := List.mem_map.mp hy
    exact (hW.sub (hl z hz)).mono (by decide)
  have mo : ∀ (l : List Rat) (k : Nat), k ≤ 900 → (∀ y ∈ l, Sz k y) → ∀ y ∈ l, Sz 900 y := fun l k hk hl y hy => (hl y hy).mono hk
  cases w <;> cases v <;> first
    | exact hff x hx
    | exact mo _ 880 (by decide) (sz_candEE hW (hr _) (hr _)) x hx
    | exact mo _ 300 (by decide) (sz_candFE hW (hr _) (hr _)) x hx
    | exact mo _ 300 (by decide) (sz_candFO hW (hr _) (hr _)) x hx
    | exact mp _ (sz_candFE hW (hr _) (hr _)) x hx
    | exact mp _ (sz_candFO hW (hr _) (hr _)) x hx
    | cases hx
/-! tight sizes of the cable's own numbers -/
theorem GoodL.six {l : Ln} (h : GoodL l) : ∃ m : Nat, l.2 * 6 = (m : Rat) ∧ m ≤ 54 := by
  obtain ⟨k, hk⟩ := h.d6
  have hn : 0 < l.2.num := (num_pos_iff l.2).mpr h.pos
  have h9 := h.n9
  refine ⟨l.2.num.toNat * k, ?_, ?_⟩
  · have e := of_nd l.2
    have e2 : (6 : Rat) = ((l.2.den : Int) : Rat) * ((k : Nat) : Rat) := by
      rw [Rat.intCast_natCast, ← Rat.natCast_mul, ← hk]; rfl
    have e3 : ((l.2.num.toNat : Nat) : Rat) = (l.2.num : Rat) := by
      rw [← Rat.intCast_natCast, Int.toNat_of_nonneg (Int.le_of_lt hn)]
    rw [Rat.natCast_mul, e3, e2]
    have d := dz l.2
    grind
  · have : k ≤ 6 := Nat.le_of_dvd (by decide) ⟨l.2.den, by rw [Nat.mul_comm]; exact hk⟩
    have h2 : l.2.num.toNat ≤ 9 := by omega
    exact Nat.le_trans (Nat.mul_le_mul h2 this) (by decide)
theorem whole_six : ∀ (c : List Ln), (∀ l ∈ c, GoodL l) → ∃ k : Nat, wholeC c * 6 = (k : Rat) ∧ k ≤ 53946 * c.length
  | [], _ => ⟨0, by show (0 : Rat) * 6 = ((0 : Nat) : Rat); have : ((0 : Nat) : Rat) = 0 := rfl; rw [this]; grind, Nat.le_refl _⟩
  | l :: c, h => by
    obtain ⟨h1, h2⟩ := tl_good h
    obtain ⟨k, e, hk⟩ := whole_six c h2
    obtain ⟨m, e2, hm⟩ := h1.six
    refine ⟨l.1 * m + k, ?_, ?_⟩
    · show ((l.1 : Rat) * l.2 + wholeC c) * 6 = _
      rw [Rat.natCast_add, Rat.natCast_mul]; grind
    · have := Nat.mul_le_mul h1.s2 hm
      rw [List.length_cons]; omega
theorem sz_of_nat {q : Rat} {k d n : Nat} (hd : d ≠ 0) (h : q * (d : Rat) = (k : Rat)) (hk : Sm n k) (hd2 : Sm n d) : Sz n q :=
  sz_of (k : Nat) (d : Nat) (by omega) (by rw [Rat.intCast_natCast, Rat.intCast_natCast]; exact h) (by rw [Int.natAbs_natCast]; exact hk) (by rw [Int.natAbs_natCast]; exact hd2)
theorem GoodC.szW {c : List Ln} {bk : Rat} (h : GoodC c bk) : Sz 20 (wholeC c) := by
  obtain ⟨k, e, hk⟩ := whole_six c h.all
  have := h.len3
  exact sz_of_nat (d := 6) (by decide) e ⟨by omega⟩ ⟨by decide⟩
/-- a drag in thirty-sixths within all of the cable is small -/
theorem sz_36 {c : List Ln} {bk q : Rat} (h : GoodC c bk) (h0 : 0 ≤ q) (h1 : q ≤ wholeC c) (hk : ∃ k : Nat, q * 36 = (k : Rat)) : Sz 20 q := by
  obtain ⟨k, e⟩ := hk
  obtain ⟨m, e2, hm⟩ := whole_six c h.all
  have l3 := h.len3
  have hle : (k : Rat) ≤ ((6 * m : Nat) : Rat) := by
    rw [Rat.natCast_mul]
    have : ((6 : Nat) : Rat) = 6 := rfl
    grind
  have := Rat.natCast_le_natCast.mp hle
  exact sz_of_nat (d := 36) (by decide) e ⟨by omega⟩ ⟨by decide⟩
/-- a place in sixths has a drag in thirty-sixths -/
theorem drag_36 : ∀ (c : List Ln) (x : Rat), (∀ l ∈ c, GoodL l) → (∃ j : Nat, x * 6 = (j : Rat)) → ∃ k : Nat, dragC c x * 36 = (k : Rat)
  | [], _, _, _ => ⟨0, by show (0 : Rat) * 36 = ((0 : Nat) : Rat); have : ((0 : Nat) : Rat) = 0 := rfl; rw [this]; grind⟩
  | l :: c, x, h, ⟨j, hj⟩ => by
    obtain ⟨h1, h2⟩ := tl_good h
    obtain ⟨m, e2, hm⟩ := h1.six
    show ∃ k : Nat, (if (l.1 : Rat) < x then (l.1 : Rat) * l.2 + dragC c (x - (l.1 : Rat)) else x * l.2) * 36 = (k : Rat)
    by_cases hlt : (l.1 : Rat) < x
    · rw [if_pos hlt]
      have hj2 : ((6 * l.1 : Nat) : Rat) ≤ (j : Rat) := by
        rw [Rat.natCast_mul]
        have : ((6 : Nat) : Rat) = 6 := rfl
        grind
      have hj3 := Rat.natCast_le_natCast.mp hj2
      obtain ⟨k, hk⟩ := drag_36 c (x - (l.1 : Rat)) h2 ⟨j - 6 * l.1, by
        have e4 : ((j : Nat) : Rat) = ((j - 6 * l.1 : Nat) : Rat) + ((6 * l.1 : Nat) : Rat) := by rw [← Rat.natCast_add]; congr 1; omega
        rw [Rat.natCast_mul] at e4
        have : ((6 : Nat) : Rat) = 6 := rfl
        grind⟩
      refine ⟨l.1 * m * 6 + k, ?_⟩
      rw [Rat.natCast_add, Rat.natCast_mul, Rat.natCast_mul]
      have : ((6 : Nat) : Rat) = 6 := rfl
      grind
    · rw [if_neg hlt]
      refine ⟨j * m, ?_⟩
      rw [Rat.natCast_mul]; grind
end Ea

namespace Ea
open PySem PySem.Spec PyProof.Rows L2
/-! ### stretches, measures -/
def wn : W4 → Str
  | .wf => "west free" | .ef => "east free" | .we => "west earth" | .ee => "east earth"
section
variable {X : Cx} {O : OS} {ds : AS} {a b : Expr} {pos : Pos} {k : Nat}
theorem et_inS2 {s u v : Str} (ha : Ed X O a ds (.str s)) (hb : Ed X O b ds (.tuple [.str u, .str v])) (hm : behindInMarks .In b = false := by rfl) : EvT X O (.Compare a [.In] [b] pos) ds ([u, v].any (· == s)) := et_inS (l := [u, v]) ha hb hm
theorem ed_inS2 {s u v : Str} (ha : Ed X O a ds (.str s)) (hb : Ed X O b ds (.tuple [.str u, .str v])) (hm : behindInMarks .In b = false := by rfl) : Ed X O (.Compare a [.In] [b] pos) ds (.bool ([u, v].any (· == s))) := ed_inS (l := [u, v]) ha hb hm
end
theorem wn_east (w : W4) : (["east free", "east earth"] : List Str).any (· == wn w) = w.east := by cases w <;> decide +kernel
theorem wn_free (w : W4) : (["west free", "east free"] : List Str).any (· == wn w) = w.free := by cases w <;> decide +kernel
theorem wn_any (w : W4) : (["west free", "east free", "west earth", "east earth"] : List Str).any (· == wn w) = true := by cases w <;> decide +kernel
theorem wn_loop (w : W4) : decide (wn w = ("loop" : Str)) = false := by cases w <;> decide +kernel
theorem wn_inj {w v : W4} (h : w ≠ v) : wn w ≠ wn v := by revert h; cases w <;> cases v <;> decide +kernel
abbrev stN (D : Rat) : PyData := .tuple [fr D, .none]
abbrev stS (D n f g : Rat) : PyData := .tuple [fr D, .tuple [fr n, fr f, fr g]]
inductive Rjoin : OS → List AV → (PyData → Prop) → Prop
  | nn {D D' : Rat} : Sz L4 D → Sz L4 D' → Rjoin [] [.d (stN D), .d (stN D')] (· = stN (D + D'))
  | ns {D D' n f g : Rat} : Sz L4 D → Sz L4 D' → Sz L4 n → Rjoin [] [.d (stN D), .d (stS D' n f g)] (· = stS (D + D') (n + D) f g)
  | sn {D D' n f g : Rat} : Sz L4 D → Sz L4 D' → Sz L4 f → Rjoin [] [.d (stS D n f g), .d (stN D')] (· = stS (D + D') n (f + D') g)
def Rstretch : RF := fun O as B => ∃ c bk x g, O = [] ∧ as = [.d (cabD c bk), .d (.tuple [.tuple [fr x, fr g]])] ∧ GoodC c bk ∧ Sz 4000 x ∧ Sz 1000 (dragC c x) ∧ B = (· = stS (wholeC c) (dragC c x) (wholeC c - dragC c x) g)
theorem r_stretch_by {c : List Ln} {bk x g : Rat} (hc : GoodC c bk) (h : Sz 4000 x) (h2 : Sz 1000 (dragC c x)) : Rstretch [] [.d (cabD c bk), .d (.tuple [.tuple [fr x, fr g]])] (· = stS (wholeC c) (dragC c x) (wholeC c - dragC c x) g) := ⟨c, bk, x, g, rfl, rfl, hc, h, h2, rfl⟩
def Rbeside : RF := fun O as B => ∃ g f, O = [] ∧ as = [.d (fr g), .d (fr f)] ∧ Sz 3000 g ∧ Sz 1000 f ∧ g + f ≠ 0 ∧ B = (· = fr (par g f))
theorem r_beside {g f : Rat} (h : Sz 3000 g) (h' : Sz 1000 f) (h0 : g + f ≠ 0) : Rbeside [] [.d (fr g), .d (fr f)] (· = fr (par g f)) := ⟨g, f, rfl, rfl, h, h', h0, rfl⟩
def Rreading : RF := fun O as B => ∃ w W n f g bk, O = [] ∧ as = [.d (stS W n f g), .d (fr bk), .d (.str (wn w))] ∧ Sz 1000 n ∧ Sz 1000 f ∧ Sz 3000 g ∧ 0 ≤ n ∧ 0 ≤ f ∧ 0 < g ∧ B = (· = fr (rd w n f g))
theorem r_reading {w : W4} {W n f g bk : Rat} (h1 : Sz 1000 n) (h2 : Sz 1000 f) (h3 : Sz 3000 g) (h4 : 0 ≤ n) (h5 : 0 ≤ f) (h6 : 0 < g) : Rreading [] [.d (stS W n f g), .d (fr bk), .d (.str (wn w))] (· = fr (rd w n f g)) := ⟨w, W, n, f, g, bk, rfl, rfl, h1, h2, h3, h4, h5, h6, rfl⟩
section
variable {P : Program} {w : World} {K : PySem.W.Frag} {mg : Str → Option Value} {base : Heap}
theorem d_join (T : Tx K mg) : Df P w K mg base 4 "join" Rjoin := df_mk (N := ["one", "other", "drag", "west", "east"]) (ps := ["one", "other"]) T.f_join ⟨rfl, rfl, rfl, by decide +kernel, rfl, by decide +kernel, by decide +kernel⟩ (fun _ _ _ _ _ _ us hl => match us, hl with | [_, _], _ => rfl) (fun O as B h => by cases h <;> rfl) fun f cdv A outer s H E hr O as B h => by
  have nd : (["one", "other", "drag", "west", "east"] : List Str).Nodup := by decide +kernel
  cases h with
  | nn h1 h2 =>
    refine rn_setd 2 (ed_call (d_add T) hr (by decide) (ea_cons (ed_ixT (ev_v 0) ed_int) (ea_cons (ed_ixT (ev_v 1) ed_int) ea_nil)) (r_add ?_ ?_)) (rn_par 3 4 (ea_cons (ed_ixT (ev_v 0) ed_int) (ea_cons (ed_ixT (ev_v 1) ed_int) ea_nil)) (rn_ifRT (EvT.to (et_w (ew_and (et_isN (ev_v 3)) fun _ => (ew_and1 (et_isN (ev_v 4))))) (by rfl)) (rn_ret (ed_tup2 (ev_v 2) ed_non) fun a z => ⟨rfl, _, z, rfl⟩)) rfl nd) nd
    · exact h1
    · exact h2
  | ns h1 h2 h3 =>
    refine rn_setd 2 (ed_call (d_add T) hr (by decide) (ea_cons (ed_ixT (ev_v 0) ed_int) (ea_cons (ed_ixT (ev_v 1) ed_int) ea_nil)) (r_add ?_ ?_)) (rn_par 3 4 (ea_cons (ed_ixT (ev_v 0) ed_int) (ea_cons (ed_ixT (ev_v 1) ed_int) ea_nil)) (rn_ifF (EvT.to (et_w (ew_and (et_isN (ev_v 3)) fun _ => (ew_and1 (et_isN (ev_v 4))))) (by rfl)) (rn_ifRT (EvT.to (et_isN (ev_v 3)) (by rfl)) (rn_ret (ed_tup2 (ev_v 2) (ed_tup3 (ed_call (d_add T) hr (by decide) (ea_cons (ed_ixT (ev_v 4) ed_int) (ea_cons (ed_ixT (ev_v 0) ed_int) ea_nil)) (r_add ?_ ?_)) (ed_ixT (ev_v 4) ed_int) (ed_ixT (ev_v 4) ed_int))) fun a z => ⟨rfl, _, z, rfl⟩))) rfl nd) nd
    · exact h1
    · exact h2
    · exact h3
    · exact h1
  | sn h1 h2 h3 =>
    refine rn_setd 2 (ed_call (d_add T) hr (by decide) (ea_cons (ed_ixT (ev_v 0) ed_int) (ea_cons (ed_ixT (ev_v 1) ed_int) ea_nil)) (r_add ?_ ?_)) (rn_par 3 4 (ea_cons (ed_ixT (ev_v 0) ed_int) (ea_cons (ed_ixT (ev_v 1) ed_int) ea_nil)) (rn_ifF (EvT.to (et_w (ew_and (et_isN (ev_v 3)) fun _ => (ew_and1 (et_isN (ev_v 4))))) (by rfl)) (rn_ifF (EvT.to (et_isN (ev_v 3)) (by rfl)) (rn_ifRT (EvT.to (et_isN (ev_v 4)) (by rfl)) (rn_ret (ed_tup2 (ev_v 2) (ed_tup3 (ed_ixT (ev_v 3) ed_int) (ed_call (d_add T) hr (by decide) (ea_cons (ed_ixT (ev_v 3) ed_int) (ea_cons (ed_ixT (ev_v 1) ed_int) ea_nil)) (r_add ?_ ?_)) (ed_ixT (ev_v 3) ed_int))) fun a z => ⟨rfl, _, z, rfl⟩)))) rfl nd) nd
    · exact h1
    · exact h2
    · exact h3
    · exact h2
theorem d_stretch_by (T : Tx K mg) : Df P w K mg base 5 "stretch_by" Rstretch := df_mk (N := ["cable", "leaks", "found", "here", "place", "drag", "there"]) (ps := ["cable", "leaks"]) T.f_stretch_by ⟨rfl, rfl, rfl, by decide +kernel, rfl, by decide +kernel, by decide +kernel⟩ (fun _ _ _ _ _ _ us hl => match us, hl with | [_, _], _ => rfl) (fun O as B h => by obtain ⟨c, bk, x, g, _, rfl, _⟩ := h; rfl) fun f cdv A outer s H E hr O as B h => by
  obtain ⟨c, bk, x, g, rfl, rfl, hc, hx, hn, rfl⟩ := h
  have nd : (["cable", "leaks", "found", "here", "place", "drag", "there"] : List Str).Nodup := by decide +kernel
  have hW := hc.szW
  have z0 : Sz L4 (0 : Rat) := sz_zero (by decide)
  have hn' : Sz L4 (dragC c x) := hn.mono (by decide)
  have hn0 : Sz 2000 (dragC c x - 0) := (hn.sub (sz_zero (n := 1) (by decide))).mono (by decide)
  have hn1 : Sz 3000 (0 + (dragC c x - 0)) := ((sz_zero (n := 1) (by decide)).add hn0).mono (by decide)
  have hn2 : Sz 4000 (0 + (dragC c x - 0) + 0) := (hn1.add (sz_zero (n := 1) (by decide))).mono (by decide)
  refine rn_setd 2 (ed_tup2 (ed_glob T.c_ZERO) ed_non) (rn_setd 3 (ed_glob T.c_ZERO) ?_ nd) nd
  refine rn_for0 (fun i ds => (i = 0 ∧ ds = [some (.d (cabD c bk)), some (.d (.tuple [.tuple [fr x, fr g]])), some (.d (stN 0)), some (.d (fr 0)), none, none, none]) ∨
    (i = 1 ∧ ds = [some (.d (cabD c bk)), some (.d (.tuple [.tuple [fr x, fr g]])), some (.d (stS (0 + (dragC c x - 0) + 0) (0 + (0 + (dragC c x - 0))) 0 g)), some (.d (fr (dragC c x))), some (.d (fr x)), some (.d (fr g)), some (.d (fr (dragC c x)))])) PassesOwn.never rfl (iw_tup (ev_v 1)) (.inl ⟨rfl, rfl⟩) (fun i y ds' hy inv => ?_) fun ds' inv => ?_
  · rcases inv with ⟨rfl, rfl⟩ | ⟨rfl, rfl⟩
    · cases hy
      refine ⟨_, tg_pair rfl (tg_name 4 nd) (tg_name 5 nd), rn_setd 6 (ed_call (d_drag_at T) hr (by decide) (ea_cons (ev_v 0) (ea_cons (ev_v 4) ea_nil)) (r_drag_at ?_ ?_)) (rn_setd 2 (ed_call (d_join T) hr (by decide) (ea_cons (ev_v 2) (ea_cons (ed_tup2 (ed_call (d_less T) hr (by decide) (ea_cons (ev_v 6) (ea_cons (ev_v 3) ea_nil)) (r_less ?_ ?_)) ed_non) ea_nil)) (.nn ?_ ?_)) (rn_setd 2 (ed_call (d_join T) hr (by decide) (ea_cons (ev_v 2) (ea_cons (ed_tup2 (ed_glob T.c_ZERO) (ed_tup3 (ed_glob T.c_ZERO) (ed_glob T.c_ZERO) (ev_v 5))) ea_nil)) (.ns ?_ ?_ ?_)) (rn_setd 3 (ev_v 6) (rn_nil ⟨rfl, .inr ⟨rfl, rfl⟩⟩) nd) nd) nd) nd⟩
      · exact hc
      · exact hx
      · exact hn'
      · exact z0
      · exact z0
      · exact hn0.mono (by decide)
      · exact hn1.mono (by decide)
      · exact z0
      · exact z0
    · cases hy
  · rcases inv with ⟨i0, rfl⟩ | ⟨_, rfl⟩
    · cases i0
    · refine rn_ret (ed_call (d_join T) hr (by decide) (ea_cons (ev_v 2) (ea_cons (ed_tup2 (ed_call (d_less T) hr (by decide) (ea_cons (ed_call (d_all_drag T) hr (by decide) (ea_cons (ev_v 0) ea_nil) (r_all_drag ?_)) (ea_cons (ev_v 3) ea_nil)) (r_less ?_ ?_)) ed_non) ea_nil)) (.sn ?_ ?_ ?_)) fun a z => ⟨rfl, _, z, ?_⟩
      · exact hc
      · exact hW.mono (by decide)
      · exact hn'
      · exact hn2.mono (by decide)
      · exact (hW.sub hn).mono (by decide)
      · exact z0
      · have e1 : 0 + (dragC c x - 0) + 0 + (wholeC c - dragC c x) = wholeC c := by grind
        have e2 : 0 + (0 + (dragC c x - 0)) = dragC c x := by grind
        have e3 : 0 + (wholeC c - dragC c x) = wholeC c - dragC c x := by grind
        show stS _ _ _ _ = stS _ _ _ _
        rw [e1, e2, e3]
theorem d_beside (T : Tx K mg) : Df P w K mg base 4 "beside" Rbeside := df_mk (N := ["one", "other"]) (ps := ["one", "other"]) T.f_beside ⟨rfl, rfl, rfl, by decide +kernel, rfl, by decide +kernel, by decide +kernel⟩ (fun _ _ _ _ _ _ us hl => match us, hl with | [_, _], _ => rfl) (fun O as B h => by obtain ⟨g, f, _, rfl, _⟩ := h; rfl) fun f cdv A outer s H E hr O as B h => by
  obtain ⟨g, f, rfl, rfl, h1, h2, h3, rfl⟩ := h
  refine rn_ret (ed_call (d_div T) hr (by decide) (ea_cons (ed_call (d_mul T) hr (by decide) (ea_cons (ev_v 0) (ea_cons (ev_v 1) ea_nil)) (r_mul ?_ ?_)) (ea_cons (ed_call (d_add T) hr (by decide) (ea_cons (ev_v 0) (ea_cons (ev_v 1) ea_nil)) (r_add ?_ ?_)) ea_nil)) (r_div ?_ ?_ ?_)) fun a z => ⟨rfl, _, z, rfl⟩
  · exact h1.mono (by decide)
  · exact h2.mono (by decide)
  · exact h1.mono (by decide)
  · exact h2.mono (by decide)
  · exact (h1.mul h2).mono (by decide)
  · exact (h1.add h2).mono (by decide)
  · exact h3
theorem d_reading (T : Tx K mg) : Df P w K mg base 5 "reading" Rreading := df_mk (N := ["stretch", "back", "word", "drag", "seen", "near", "far"]) (ps := ["stretch", "back", "word"]) T.f_reading ⟨rfl, rfl, rfl, by decide +kernel, rfl, by decide +kernel, by decide +kernel⟩ (fun _ _ _ _ _ _ us hl => match us, hl with | [_, _, _], _ => rfl) (fun O as B h => by obtain ⟨_, _, _, _, _, _, _, rfl, _⟩ := h; rfl) fun f cdv A outer s H E hr O as B h => by
  obtain ⟨wd, W, n, f', g, bk, rfl, rfl, h1, h2, h3, h4, h5, h6, rfl⟩ := h
  have nd : (["stretch", "back", "word", "drag", "seen", "near", "far"] : List Str).Nodup := by decide +kernel
  have key : ∀ nr fr' : Rat, nr = near wd n f' → fr' = far wd n f' → Rn (Bx P w K mg base ["stretch", "back", "word", "drag", "seen", "near", "far"] "reading" (topS 44) f cdv A outer s H E) [] ((defBody (topS 44)).drop 5) [some (.d (stS W n f' g)), some (.d (fr bk)), some (.d (.str (wn wd))), some (.d (fr W)), some (.d (.tuple [fr n, fr f', fr g])), some (.d (fr nr)), some (.d (fr fr'))] (fun O' _ => O' = [] ∧ PyData.none = fr (rd wd n f' g)) (fun O' a => O' = [] ∧ ∃ d, a = .d d ∧ d = fr (rd wd n f' g)) := fun nr fr' e1 e2 => by
    have s1 : Sz 1000 nr := by rw [e1]; unfold near; split <;> assumption
    have s2 : Sz 1000 fr' := by rw [e2]; unfold far; split <;> assumption
    have p2 : 0 ≤ fr' := by rw [e2]; exact far_nn h4 h5
    have p3 : g + fr' ≠ 0 := by grind
    have er : rd wd n f' g = if wd.free then nr + g else nr + par g fr' := by rw [e1, e2]; rfl
    refine rn_ifR (EvT.to (et_inS2 (ev_v 2) (ed_tup2 ed_str ed_str)) (wn_free wd)) (fun hk => rn_ret (ed_call (d_add T) hr (by decide) (ea_cons (ev_v 5) (ea_cons (ed_ixT (ev_v 4) ed_int) ea_nil)) (r_add ?_ ?_)) fun a z => ⟨rfl, _, z, ?_⟩) fun hk => rn_ret (ed_call (d_add T) hr (by decide) (ea_cons (ev_v 5) (ea_cons (ed_call (d_beside T) hr (by decide) (ea_cons (ed_ixT (ev_v 4) ed_int) (ea_cons (ev_v 6) ea_nil)) (r_beside ?_ ?_ ?_)) ea_nil)) (r_add ?_ ?_)) fun a z => ⟨rfl, _, z, ?_⟩
    · exact s1.mono (by decide)
    · exact h3.mono (by decide)
    · rw [er, hk, if_pos rfl]
    · exact h3
    · exact s2
    · exact p3
    · exact s1.mono (by decide)
    · exact (h3.par s2 p3).mono (by decide)
    · rw [er, hk, if_neg Bool.false_ne_true]
  refine rn_asg (ev_v 0) (tg_pair rfl (tg_name 3 nd) (tg_name 4 nd)) (rn_ifF (EvT.to (et_eqS (ev_v 2) ed_str) (wn_loop wd)) (rn_ifF (EvT.to (et_isN (ev_v 4)) (by rfl)) (rn_par 5 6 (ea_cons (ed_ixT (ev_v 4) ed_int) (ea_cons (ed_ixT (ev_v 4) ed_int) ea_nil)) ?_ rfl nd)))
  refine rn_if (EvT.to (et_inS2 (ev_v 2) (ed_tup2 ed_str ed_str)) (wn_east wd)) (fun hk => rn_thru (rn_par 5 6 (ea_cons (ed_ixT (ev_v 4) ed_int) (ea_cons (ed_ixT (ev_v 4) ed_int) ea_nil)) (rn_nil ⟨rfl, rfl⟩) rfl nd) (key f' n ?_ ?_)) fun hk => rn_nil ⟨fun _ h => h, key n f' ?_ ?_⟩
  · unfold near; rw [hk, if_pos rfl]
  · unfold far; rw [hk, if_pos rfl]
  · unfold near; rw [hk, if_neg Bool.false_ne_true]
  · unfold far; rw [hk, if_neg Bool.false_ne_true]
end
end Ea

namespace Ea
open PySem PySem.Spec PyProof.Rows L2
/-! ### one leak -/
theorem fr_eqv (p q : Rat) : PyData.eqv (fr p) (fr q) = decide (p = q) := by
  have e : PyData.eqv (fr p) (fr q) = ((p.num == q.num) && ((((p.den : Nat) : Int) == ((q.den : Nat) : Int)) && true)) := by simp only [PyData.eqv, PyData.eqvAll]
  rw [e]
  by_cases h : p = q
  · subst h; simp
  · rw [decide_eq_false h]
    by_cases h1 : p.num = q.num
    · by_cases h2 : p.den = q.den
      · exact absurd (Rat.ext h1 h2) h
      · have : (((p.den : Nat) : Int) == ((q.den : Nat) : Int)) = false := beq_eq_false_iff_ne.mpr (by omega)
        rw [this]; simp
    · have : (p.num == q.num) = false := beq_eq_false_iff_ne.mpr h1
      rw [this]; rfl
theorem fr_shaped (p : Rat) : SeqAt.shaped (fr p) = true := by
  show ((fr p).canLay0 && decide ((fr p).depth ≤ 64)) = true
  have h1 : (fr p).canLay0 = true := by simp [PyData.canLay0, PyData.canLayAll0]
  have h2 : (fr p).depth ≤ 64 := by simp [PyData.depth, PyData.depthAll]
  rw [h1, decide_eq_true h2]; rfl
abbrev lstF (l : List Rat) : PyData := .list (l.map fr)
def optL : Option (Rat × Rat) → PyData
  | some l => .tuple [fr l.1, fr l.2]
  | none => .none
def Rword : RF := fun O as B => ∃ w, O = [] ∧ as = [.d (.str (wn w))] ∧ B = (· = .none)
theorem r_check_word {w : W4} : Rword [] [.d (.str (wn w))] (· = .none) := ⟨w, rfl, rfl, rfl⟩
def Rcread : RF := fun O as B => ∃ q : Rat, O = [] ∧ as = [.d (fr q)] ∧ 0 ≤ q ∧ B = (· = .none)
theorem r_check_reading {q : Rat} (h : 0 ≤ q) : Rcread [] [.d (fr q)] (· = .none) := ⟨q, rfl, rfl, h, rfl⟩
def Rdwith : RF := fun O as B => ∃ w nr fa t, O = [] ∧ as = [.d (fr nr), .d (fr fa), .d (.str (wn w)), .d (fr t)] ∧ Sz 1000 nr ∧ Sz 1000 fa ∧ Sz 1000 t ∧ B = (· = optF (dw w nr fa t))
theorem r_drag_with {w : W4} {nr fa t : Rat} (h1 : Sz 1000 nr) (h2 : Sz 1000 fa) (h3 : Sz 1000 t) : Rdwith [] [.d (fr nr), .d (fr fa), .d (.str (wn w)), .d (fr t)] (· = optF (dw w nr fa t)) := ⟨w, nr, fa, t, rfl, rfl, h1, h2, h3, rfl⟩
def Rdby : RF := fun O as B => ∃ c bk w t x, O = [] ∧ as = [.d (cabD c bk), .d (.str (wn w)), .d (fr t), .d (fr x)] ∧ GoodC c bk ∧ 0 ≤ t ∧ Sz 900 t ∧ 0 ≤ x ∧ x ≤ ((stepsC c : Nat) : Rat) ∧ Sz 4000 x ∧ Sz 900 (dragC c x) ∧ B = (· = optF (dw w (near w (dragC c x) (wholeC c - dragC c x)) (far w (dragC c x) (wholeC c - dragC c x)) t))
theorem r_drag_by {c : List Ln} {bk t x : Rat} {w : W4} (hc : GoodC c bk) (h1 : 0 ≤ t) (h2 : Sz 900 t) (h3 : 0 ≤ x) (h4 : x ≤ ((stepsC c : Nat) : Rat)) (h5 : Sz 4000 x) (h6 : Sz 900 (dragC c x)) :
    Rdby [] [.d (cabD c bk), .d (.str (wn w)), .d (fr t), .d (fr x)] (· = optF (dw w (near w (dragC c x) (wholeC c - dragC c x)) (far w (dragC c x) (wholeC c - dragC c x)) t)) := ⟨c, bk, w, t, x, rfl, rfl, hc, h1, h2, h3, h4, h5, h6, rfl⟩
def Rby (f : Rat → Rat → Rat → List Rat) : RF := fun O as B => ∃ W a e, O = [] ∧ as = [.d (fr W), .d (fr a), .d (fr e)] ∧ Sz 20 W ∧ Sz 80 a ∧ Sz 80 e ∧ B = (· = lstF (f W a e))
theorem r_by_free_and_earth {W a e : Rat} (h1 : Sz 20 W) (h2 : Sz 80 a) (h3 : Sz 80 e) : Rby candFE [] [.d (fr W), .d (fr a), .d (fr e)] (· = lstF (candFE W a e)) := ⟨W, a, e, rfl, rfl, h1, h2, h3, rfl⟩
theorem r_by_free_and_far_earth {W a e : Rat} (h1 : Sz 20 W) (h2 : Sz 80 a) (h3 : Sz 80 e) : Rby candFO [] [.d (fr W), .d (fr a), .d (fr e)] (· = lstF (candFO W a e)) := ⟨W, a, e, rfl, rfl, h1, h2, h3, rfl⟩
theorem r_by_earths {W a e : Rat} (h1 : Sz 20 W) (h2 : Sz 80 a) (h3 : Sz 80 e) : Rby candEE [] [.d (fr W), .d (fr a), .d (fr e)] (· = lstF (candEE W a e)) := ⟨W, a, e, rfl, rfl, h1, h2, h3, rfl⟩
theorem optF_non {o : Option Rat} : isNon (optF o) = o.isNone := by cases o <;> rfl
section
variable {P : Program} {w : World} {K : PySem.W.Frag} {mg : Str → Option Value} {base : Heap}
theorem d_check_word (T : Tx K mg) : Df P w K mg base 1 "check_word" Rword := df_mk (N := ["word"]) (ps := ["word"]) T.f_check_word ⟨rfl, rfl, rfl, by decide +kernel, rfl, by decide +kernel, by decide +kernel⟩ (fun _ _ _ _ _ _ us hl => match us, hl with | [_], _ => rfl) (fun O as B h => by obtain ⟨_, _, rfl, _⟩ := h; rfl) fun f cdv A outer s H E hr O as B h => by
  obtain ⟨wd, rfl, rfl, rfl⟩ := h
  refine rn_ifF (EvT.to (et_w (ew_or (et_not (et_val (ed_isi_str_str T.b_isinstance T.b_str (ev_v 0)))) fun _ => (ew_or1 (et_niS (ev_v 0) (ed_glob T.c_FREE_WORDS))))) ?_) (rn_nil ⟨rfl, rfl⟩)
  rw [wn_any]; rfl
theorem d_check_reading (T : Tx K mg) : Df P w K mg base 4 "check_reading" Rcread := df_mk (N := ["told"]) (ps := ["told"]) T.f_check_reading ⟨rfl, rfl, rfl, by decide +kernel, rfl, by decide +kernel, by decide +kernel⟩ (fun _ _ _ _ _ _ us hl => match us, hl with | [_], _ => rfl) (fun O as B h => by obtain ⟨_, _, rfl, _⟩ := h; rfl) fun f cdv A outer s H E hr O as B h => by
  obtain ⟨q, rfl, rfl, hq, rfl⟩ := h
  refine rn_ifF (EvT.to (et_not (et_val (ed_call (d_is_from_zero T) hr (by decide) (ea_cons (ev_v 0) ea_nil) (r_is_from_zero)))) ?_) (rn_nil ⟨rfl, rfl⟩)
  rw [decide_eq_true hq]; rfl
theorem d_drag_with (T : Tx K mg) : Df P w K mg base 4 "drag_with" Rdwith := df_mk (N := ["near", "far", "word", "told", "seen"]) (ps := ["near", "far", "word", "told"]) T.f_drag_with ⟨rfl, rfl, rfl, by decide +kernel, rfl, by decide +kernel, by decide +kernel⟩ (fun _ _ _ _ _ _ us hl => match us, hl with | [_, _, _, _], _ => rfl) (fun O as B h => by obtain ⟨_, _, _, _, _, rfl, _⟩ := h; rfl) fun f cdv A outer s H E hr O as B h => by
  obtain ⟨wd, nr, fa, t, rfl, rfl, h1, h2, h3, rfl⟩ := h
  have nd : (["near", "far", "word", "told", "seen"] : List Str).Nodup := by decide +kernel
  have hs : Sz 2001 (t - nr) := h3.sub h1
  unfold dw
  refine rn_setd 4 (ed_call (d_less T) hr (by decide) (ea_cons (ev_v 3) (ea_cons (ev_v 0) ea_nil)) (r_less ?_ ?_)) ?_ nd
  · exact h3.mono (by decide)
  · exact h1.mono (by decide)
  by_cases c1 : 0 < t - nr
  · refine rn_ifF (EvT.to (et_not (et_val (ed_call (d_is_above_zero T) hr (by decide) (ea_cons (ev_v 4) ea_nil) (r_is_above_zero)))) (by rw [decide_eq_true c1]; rfl)) ?_
    rw [if_neg (fun z => z c1)]
    refine rn_ifR (EvT.to (et_inS (ev_v 2) (ed_glob T.c_FREE)) (wn_free wd)) (fun hk => rn_ret (ev_v 4) fun a z => ⟨rfl, _, z, ?_⟩) fun hk => ?_
    · rw [if_pos hk]; rfl
    rw [if_neg (by rw [hk]; exact Bool.false_ne_true)]
    by_cases c2 : t - nr < fa
    · refine rn_ifF (EvT.to (et_not (et_val (ed_call (d_is_less T) hr (by decide) (ea_cons (ev_v 4) (ea_cons (ev_v 1) ea_nil)) (r_is_less ?_ ?_)))) (by rw [decide_eq_true c2]; rfl)) (rn_ret (ed_call (d_div T) hr (by decide) (ea_cons (ed_call (d_mul T) hr (by decide) (ea_cons (ev_v 4) (ea_cons (ev_v 1) ea_nil)) (r_mul ?_ ?_)) (ea_cons (ed_call (d_less T) hr (by decide) (ea_cons (ev_v 1) (ea_cons (ev_v 4) ea_nil)) (r_less ?_ ?_)) ea_nil)) (r_div ?_ ?_ ?_)) fun a z => ⟨rfl, _, z, ?_⟩)
      · exact hs.mono (by decide)
      · exact h2.mono (by decide)
      · exact hs.mono (by decide)
      · exact h2.mono (by decide)
      · exact h2.mono (by decide)
      · exact hs.mono (by decide)
      · exact (hs.mul h2).mono (by decide)
      · exact (h2.sub hs).mono (by decide)
      · intro z; grind
      · rw [if_neg (fun z => z c2)]; rfl
    · refine rn_ifRT (EvT.to (et_not (et_val (ed_call (d_is_less T) hr (by decide) (ea_cons (ev_v 4) (ea_cons (ev_v 1) ea_nil)) (r_is_less ?_ ?_)))) (by rw [decide_eq_false c2]; rfl)) (rn_ret ed_non fun a z => ⟨rfl, _, z, ?_⟩)
      · exact hs.mono (by decide)
      · exact h2.mono (by decide)
      · rw [if_pos c2]; rfl
  · refine rn_ifRT (EvT.to (et_not (et_val (ed_call (d_is_above_zero T) hr (by decide) (ea_cons (ev_v 4) ea_nil) (r_is_above_zero)))) (by rw [decide_eq_false c1]; rfl)) (rn_ret ed_non fun a z => ⟨rfl, _, z, ?_⟩)
    rw [if_pos c1]; rfl
theorem d_drag_by (T : Tx K mg) : Df P w K mg base 7 "drag_by" Rdby := df_mk (N := ["cable", "word", "told", "place", "near", "far"]) (ps := ["cable", "word", "told", "place"]) T.f_drag_by ⟨rfl, rfl, rfl, by decide +kernel, rfl, by decide +kernel, by decide +kernel⟩ (fun _ _ _ _ _ _ us hl => match us, hl with | [_, _, _, _], _ => rfl) (fun O as B h => by obtain ⟨_, _, _, _, _, _, rfl, _⟩ := h; rfl) fun f cdv A outer s H E hr O as B h => by
  obtain ⟨c, bk, wd, t, x, rfl, rfl, hc, h1, h2, h3, h4, h5, h6, rfl⟩ := h
  have nd : (["cable", "word", "told", "place", "near", "far"] : List Str).Nodup := by decide +kernel
  have hf : Sz 1000 (wholeC c - dragC c x) := (hc.szW.sub h6).mono (by decide)
  refine rn_expr (ed_call (d_check_cable T) hr (by decide) (ea_cons (ev_v 0) ea_nil) (r_check_cable ?_)) (rn_expr (ed_call (d_check_word T) hr (by decide) (ea_cons (ev_v 1) ea_nil) (r_check_word)) (rn_expr (ed_call (d_check_reading T) hr (by decide) (ea_cons (ev_v 2) ea_nil) (r_check_reading ?_)) (rn_expr (ed_call (d_check_place T) hr (by decide) (ea_cons (ev_v 0) (ea_cons (ev_v 3) ea_nil)) (r_check_place ?_ ?_ ?_ ?_)) (rn_setd 4 (ed_call (d_drag_at T) hr (by decide) (ea_cons (ev_v 0) (ea_cons (ev_v 3) ea_nil)) (r_drag_at ?_ ?_)) (rn_setd 5 (ed_call (d_less T) hr (by decide) (ea_cons (ed_call (d_all_drag T) hr (by decide) (ea_cons (ev_v 0) ea_nil) (r_all_drag ?_)) (ea_cons (ev_v 4) ea_nil)) (r_less ?_ ?_)) ?_ nd) nd))))
  · exact hc
  · exact h1
  · exact hc
  · exact h5
  · exact h3
  · exact h4
  · exact hc
  · exact h5
  · exact hc
  · exact hc.szW.mono (by decide)
  · exact h6.mono (by decide)
  refine rn_if (EvT.to (et_inS (ev_v 1) (ed_glob T.c_EAST)) (wn_east wd)) (fun hk => rn_thru (rn_par 4 5 (ea_cons (ev_v 5) (ea_cons (ev_v 4) ea_nil)) (rn_nil ⟨rfl, rfl⟩) rfl nd) (rn_ret (ed_call (d_drag_with T) hr (by decide) (ea_cons (ev_v 4) (ea_cons (ev_v 5) (ea_cons (ev_v 1) (ea_cons (ev_v 2) ea_nil)))) (r_drag_with ?_ ?_ ?_)) fun a z => ⟨rfl, _, z, ?_⟩)) fun hk => rn_nil ⟨fun _ h => h, rn_ret (ed_call (d_drag_with T) hr (by decide) (ea_cons (ev_v 4) (ea_cons (ev_v 5) (ea_cons (ev_v 1) (ea_cons (ev_v 2) ea_nil)))) (r_drag_with ?_ ?_ ?_)) fun a z => ⟨rfl, _, z, ?_⟩⟩
  · exact hf
  · exact h6.mono (by decide)
  · exact h2.mono (by decide)
  · unfold near far; rw [hk, if_pos rfl, if_pos rfl]
  · exact h6.mono (by decide)
  · exact hf
  · exact h2.mono (by decide)
  · unfold near far; rw [hk, if_neg Bool.false_ne_true, if_neg Bool.false_ne_true]
theorem d_by_free_and_earth (T : Tx K mg) : Df P w K mg base 5 "by_free_and_earth" (Rby candFE) := df_mk (N := ["whole", "free", "earth", "square", "found"]) (ps := ["whole", "free", "earth"]) T.f_by_free_and_earth ⟨rfl, rfl, rfl, by decide +kernel, rfl, by decide +kernel, by decide +kernel⟩ (fun _ _ _ _ _ _ us hl => match us, hl with | [_, _, _], _ => rfl) (fun O as B h => by obtain ⟨_, _, _, _, rfl, _⟩ := h; rfl) fun f cdv A outer s H E hr O as B h => by
  obtain ⟨W, a, e, rfl, rfl, h1, h2, h3, rfl⟩ := h
  have nd : (["whole", "free", "earth", "square", "found"] : List Str).Nodup := by decide +kernel
  have hp : Sz 262 ((a - e) * (W - e)) := ((h2.sub h3).mul (h1.sub h3)).mono (by decide)
  refine rn_setd 3 (ed_call (d_mul T) hr (by decide) (ea_cons (ed_call (d_less T) hr (by decide) (ea_cons (ev_v 1) (ea_cons (ev_v 2) ea_nil)) (r_less ?_ ?_)) (ea_cons (ed_call (d_less T) hr (by decide) (ea_cons (ev_v 0) (ea_cons (ev_v 2) ea_nil)) (r_less ?_ ?_)) ea_nil)) (r_mul ?_ ?_)) (rn_setd 4 (ed_call (d_root T) hr (by decide) (ea_cons (ev_v 3) ea_nil) (r_root ?_)) ?_ nd) nd
  · exact h2.mono (by decide)
  · exact h3.mono (by decide)
  · exact h1.mono (by decide)
  · exact h3.mono (by decide)
  · exact (h2.sub h3).mono (by decide)
  · exact (h1.sub h3).mono (by decide)
  · exact hp.mono (by decide)
  unfold candFE
  cases q : sqR ((a - e) * (W - e)) with
  | none => exact rn_ifRT (EvT.to (et_isN (ev_v 4)) (by rfl)) (rn_ret ed_lst0 fun a z => ⟨rfl, _, z, rfl⟩)
  | some r =>
    refine rn_ifF (EvT.to (et_isN (ev_v 4)) (by rfl)) (rn_ret (ed_lst1 (ed_call (d_less T) hr (by decide) (ea_cons (ev_v 2) (ea_cons (ev_v 4) ea_nil)) (r_less ?_ ?_))) fun a z => ⟨rfl, _, z, rfl⟩)
    · exact h3.mono (by decide)
    · exact (sz_root (k := 131) (sqR_is q) (hp.mono (by decide))).mono (by decide)
theorem d_by_free_and_far_earth (T : Tx K mg) : Df P w K mg base 5 "by_free_and_far_earth" (Rby candFO) := df_mk (N := ["whole", "free", "earth", "found"]) (ps := ["whole", "free", "earth"]) T.f_by_free_and_far_earth ⟨rfl, rfl, rfl, by decide +kernel, rfl, by decide +kernel, by decide +kernel⟩ (fun _ _ _ _ _ _ us hl => match us, hl with | [_, _, _], _ => rfl) (fun O as B h => by obtain ⟨_, _, _, _, rfl, _⟩ := h; rfl) fun f cdv A outer s H E hr O as B h => by
  obtain ⟨W, a, e, rfl, rfl, h1, h2, h3, rfl⟩ := h
  have nd : (["whole", "free", "earth", "found"] : List Str).Nodup := by decide +kernel
  have hp : Sz 182 (a * (W - e)) := (h2.mul (h1.sub h3)).mono (by decide)
  refine rn_setd 3 (ed_call (d_root T) hr (by decide) (ea_cons (ed_call (d_mul T) hr (by decide) (ea_cons (ev_v 1) (ea_cons (ed_call (d_less T) hr (by decide) (ea_cons (ev_v 0) (ea_cons (ev_v 2) ea_nil)) (r_less ?_ ?_)) ea_nil)) (r_mul ?_ ?_)) ea_nil) (r_root ?_)) ?_ nd
  · exact h1.mono (by decide)
  · exact h3.mono (by decide)
  · exact h2.mono (by decide)
  · exact (h1.sub h3).mono (by decide)
  · exact hp.mono (by decide)
  unfold candFO
  cases q : sqR (a * (W - e)) with
  | none => exact rn_ifRT (EvT.to (et_isN (ev_v 3)) (by rfl)) (rn_ret ed_lst0 fun a z => ⟨rfl, _, z, rfl⟩)
  | some r => exact rn_ifF (EvT.to (et_isN (ev_v 3)) (by rfl)) (rn_ret (ed_lst1 (ev_v 3)) fun a z => ⟨rfl, _, z, rfl⟩)
theorem d_by_earths (T : Tx K mg) : Df P w K mg base 5 "by_earths" (Rby candEE) := df_mk (N := ["whole", "west", "east", "one", "other", "top", "found", "under"]) (ps := ["whole", "west", "east"]) T.f_by_earths ⟨rfl, rfl, rfl, by decide +kernel, rfl, by decide +kernel, by decide +kernel⟩ (fun _ _ _ _ _ _ us hl => match us, hl with | [_, _, _], _ => rfl) (fun O as B h => by obtain ⟨_, _, _, _, rfl, _⟩ := h; rfl) fun f cdv A outer s H E hr O as B h => by
  obtain ⟨W, e, hh, rfl, rfl, h1, h2, h3, rfl⟩ := h
  have nd : (["whole", "west", "east", "one", "other", "top", "found", "under"] : List Str).Nodup := by decide +kernel
  have p1 : Sz 101 (W - e) := h1.sub h2
  have p2 : Sz 101 (W - hh) := h1.sub h3
  have p3 : Sz 122 (W - (W - e)) := h1.sub p1
  have p4 : Sz 122 (W - (W - hh)) := h1.sub p2
  have p5 : Sz 446 ((W - e) * (W - hh) * ((W - (W - e)) * (W - (W - hh)))) := ((p1.mul p2).mul (p3.mul p4)).mono (by decide)
  have p6 : Sz 223 ((W - hh) * (W - (W - e))) := p2.mul p3
  unfold candEE
  refine rn_par 3 4 (ea_cons (ed_call (d_less T) hr (by decide) (ea_cons (ev_v 0) (ea_cons (ev_v 1) ea_nil)) (r_less ?_ ?_)) (ea_cons (ed_call (d_less T) hr (by decide) (ea_cons (ev_v 0) (ea_cons (ev_v 2) ea_nil)) (r_less ?_ ?_)) ea_nil)) ?_ rfl nd
  · exact h1.mono (by decide)
  · exact h2.mono (by decide)
  · exact h1.mono (by decide)
  · exact h3.mono (by decide)
  by_cases c : W - e = 0 ∨ W - hh = 0
  · rw [if_pos c]
    refine rn_ifRT (EvT.to (et_w (ew_or (et_eq hr (ev_v 3) (ed_glob T.c_ZERO) ?_ ?_) fun _ => (ew_or1 (et_eq hr (ev_v 4) (ed_glob T.c_ZERO) ?_ ?_)))) ?_) (rn_ret (ed_lst2 (ed_glob T.c_ZERO) (ev_v 0)) fun a z => ⟨rfl, _, z, rfl⟩)
    · exact fr_shaped _
    · exact fr_shaped _
    · exact fr_shaped _
    · exact fr_shaped _
    · rw [fr_eqv, fr_eqv]
      rcases c with c | c
      · rw [decide_eq_true c]; rfl
      · rw [decide_eq_true c, Bool.or_true]
  · rw [if_neg c]
    refine rn_ifF (EvT.to (et_w (ew_or (et_eq hr (ev_v 3) (ed_glob T.c_ZERO) ?_ ?_) fun _ => (ew_or1 (et_eq hr (ev_v 4) (ed_glob T.c_ZERO) ?_ ?_)))) ?_) ?_
    · exact fr_shaped _
    · exact fr_shaped _
    · exact fr_shaped _
    · exact fr_shaped _
    · rw [fr_eqv, fr_eqv, decide_eq_false (fun z => c (.inl z)), decide_eq_false (fun z => c (.inr z))]; rfl
    by_cases c2 : W - e = W - hh
    · rw [if_pos c2]
      refine rn_ifRT (EvT.to (et_eq hr (ev_v 3) (ev_v 4) ?_ ?_) ?_) (rn_ret (ed_lst1 (ed_call (d_half T) hr (by decide) (ea_cons (ev_v 0) ea_nil) (r_half ?_))) fun a z => ⟨rfl, _, z, rfl⟩)
      · exact fr_shaped _
      · exact fr_shaped _
      · rw [fr_eqv, decide_eq_true c2]
      · exact h1.mono (by decide)
    · rw [if_neg c2]
      refine rn_ifF (EvT.to (et_eq hr (ev_v 3) (ev_v 4) ?_ ?_) ?_) (rn_setd 5 (ed_call (d_mul T) hr (by decide) (ea_cons (ev_v 4) (ea_cons (ed_call (d_less T) hr (by decide) (ea_cons (ev_v 0) (ea_cons (ev_v 3) ea_nil)) (r_less ?_ ?_)) ea_nil)) (r_mul ?_ ?_)) (rn_setd 6 (ed_call (d_root T) hr (by decide) (ea_cons (ed_call (d_mul T) hr (by decide) (ea_cons (ed_call (d_mul T) hr (by decide) (ea_cons (ev_v 3) (ea_cons (ev_v 4) ea_nil)) (r_mul ?_ ?_)) (ea_cons (ed_call (d_mul T) hr (by decide) (ea_cons (ed_call (d_less T) hr (by decide) (ea_cons (ev_v 0) (ea_cons (ev_v 3) ea_nil)) (r_less ?_ ?_)) (ea_cons (ed_call (d_less T) hr (by decide) (ea_cons (ev_v 0) (ea_cons (ev_v 4) ea_nil)) (r_less ?_ ?_)) ea_nil)) (r_mul ?_ ?_)) ea_nil)) (r_mul ?_ ?_)) ea_nil) (r_root ?_)) ?_ nd) nd)
      · exact fr_shaped _
      · exact fr_shaped _
      · rw [fr_eqv, decide_eq_false c2]
      · exact h1.mono (by decide)
      · exact p1.mono (by decide)
      · exact p2.mono (by decide)
      · exact p3.mono (by decide)
      · exact p1.mono (by decide)
      · exact p2.mono (by decide)
      · exact h1.mono (by decide)
      · exact p1.mono (by decide)
      · exact h1.mono (by decide)
      · exact p2.mono (by decide)
      · exact p3.mono (by decide)
      · exact p4.mono (by decide)
      · exact (p1.mul p2).mono (by decide)
      · exact (p3.mul p4).mono (by decide)
      · exact p5.mono (by decide)
      have hd : W - hh - (W - e) ≠ 0 := fun z => c2 (by grind)
      have pu : Sz 203 (W - hh - (W - e)) := p2.sub p1
      cases q : sqR ((W - e) * (W - hh) * ((W - (W - e)) * (W - (W - hh)))) with
      | none => exact rn_ifRT (EvT.to (et_isN (ev_v 6)) (by rfl)) (rn_ret ed_lst0 fun a z => ⟨rfl, _, z, rfl⟩)
      | some r =>
        have pr : Sz 223 r := sz_root (sqR_is q) (p5.mono (by decide))
        refine rn_ifF (EvT.to (et_isN (ev_v 6)) (by rfl)) (rn_setd 7 (ed_call (d_less T) hr (by decide) (ea_cons (ev_v 4) (ea_cons (ev_v 3) ea_nil)) (r_less ?_ ?_)) (rn_ret (ed_lst2 (ed_call (d_div T) hr (by decide) (ea_cons (ed_call (d_add T) hr (by decide) (ea_cons (ev_v 5) (ea_cons (ev_v 6) ea_nil)) (r_add ?_ ?_)) (ea_cons (ev_v 7) ea_nil)) (r_div ?_ ?_ ?_)) (ed_call (d_div T) hr (by decide) (ea_cons (ed_call (d_less T) hr (by decide) (ea_cons (ev_v 5) (ea_cons (ev_v 6) ea_nil)) (r_less ?_ ?_)) (ea_cons (ev_v 7) ea_nil)) (r_div ?_ ?_ ?_))) fun a z => ⟨rfl, _, z, rfl⟩) nd)
        · exact p2.mono (by decide)
        · exact p1.mono (by decide)
        · exact p6.mono (by decide)
        · exact pr.mono (by decide)
        · exact (p6.add pr).mono (by decide)
        · exact pu.mono (by decide)
        · exact hd
        · exact p6.mono (by decide)
        · exact pr.mono (by decide)
        · exact (p6.sub pr).mono (by decide)
        · exact pu.mono (by decide)
        · exact hd
end
end Ea

namespace Ea
open PySem PySem.Spec PyProof.Rows L2
/-! ### one leak by two measures -/
theorem perm_pair {a b : Str} {ys : List Str} (h : ys.Perm [a, b]) : ys = [a, b] ∨ ys = [b, a] := by
  have hl := h.length_eq
  match ys, hl with
  | [c, d], _ =>
    have hc : c ∈ [a, b] := h.mem_iff.mp List.mem_cons_self
    rcases List.mem_cons.mp hc with z | z
    · subst z
      have := h.cons_inv
      rw [List.perm_singleton.mp this]; exact .inl rfl
    · have z' : c = b := List.mem_singleton.mp z
      subst z'
      have h2 : [c, d].Perm [c, a] := h.trans (List.Perm.swap _ _ _)
      have := h2.cons_inv
      rw [List.perm_singleton.mp this]; exact .inr rfl
/-- the two words in order -/
def srt : W4 → W4 → List W4
  | .wf, .ef => [.ef, .wf] | .ef, .wf => [.ef, .wf]
  | .we, .ee => [.ee, .we] | .ee, .we => [.ee, .we]
  | .wf, .we => [.we, .wf] | .we, .wf => [.we, .wf]
  | .wf, .ee => [.ee, .wf] | .ee, .wf => [.ee, .wf]
  | .ef, .ee => [.ee, .ef] | .ee, .ef => [.ee, .ef]
  | .ef, .we => [.ef, .we] | .we, .ef => [.ef, .we]
  | a, b => [a, b]
theorem srt_is {w v : W4} (hwv : w ≠ v) {ys : List Str} (h : ys.Perm [wn w, wn v]) (hs : sortedS ys = true) : ys = (srt w v).map wn := by
  have no : ∀ a b : W4, sortedS [wn a, wn b] = true → a ≠ b → [wn a, wn b] = (srt a b).map wn := by
    intro a b
    cases a <;> cases b <;> decide +kernel
  have sym : srt w v = srt v w := by revert hwv; cases w <;> cases v <;> decide +kernel
  rcases perm_pair h with z | z
  · rw [z] at hs ⊢
    exact no w v hs hwv
  · rw [z] at hs ⊢
    rw [sym]
    exact no v w hs (Ne.symm hwv)
abbrev sl (w v : W4) : PyData := .list (((srt w v).map wn).map PyData.str)
abbrev l2 (a b : Str) : PyData := .list [.str a, .str b]
theorem k_ff {w v : W4} (h : w ≠ v) (k : PyData.eqv (sl w v) (l2 "east free" "west free") = true) : (w = .wf ∧ v = .ef) ∨ (w = .ef ∧ v = .wf) := by
  revert h k; cases w <;> cases v <;> decide +kernel
theorem k_ee {w v : W4} (h : w ≠ v) (k : PyData.eqv (sl w v) (l2 "east earth" "west earth") = true) : (w = .we ∧ v = .ee) ∨ (w = .ee ∧ v = .we) := by
  revert h k; cases w <;> cases v <;> decide +kernel
theorem k_ww {w v : W4} (h : w ≠ v) (k : PyData.eqv (sl w v) (l2 "west earth" "west free") = true) : (w = .wf ∧ v = .we) ∨ (w = .we ∧ v = .wf) := by
  revert h k; cases w <;> cases v <;> decide +kernel
theorem k_wo {w v : W4} (h : w ≠ v) (k : PyData.eqv (sl w v) (l2 "east earth" "west free") = true) : (w = .wf ∧ v = .ee) ∨ (w = .ee ∧ v = .wf) := by
  revert h k; cases w <;> cases v <;> decide +kernel
theorem k_ef {w v : W4} (h : w ≠ v) (k : PyData.eqv (sl w v) (l2 "east earth" "east free") = true) : (w = .ef ∧ v = .ee) ∨ (w = .ee ∧ v = .ef) := by
  revert h k; cases w <;> cases v <;> decide +kernel
theorem k_eo {w v : W4} (h : w ≠ v) (k1 : PyData.eqv (sl w v) (l2 "east free" "west free") = false) (k2 : PyData.eqv (sl w v) (l2 "east earth" "west earth") = false) (k3 : PyData.eqv (sl w v) (l2 "west earth" "west free") = false) (k4 : PyData.eqv (sl w v) (l2 "east earth" "west free") = false)
    (k5 : PyData.eqv (sl w v) (l2 "east earth" "east free") = false) : (w = .ef ∧ v = .we) ∨ (w = .we ∧ v = .ef) := by
  revert h k1 k2 k3 k4 k5; cases w <;> cases v <;> decide +kernel
theorem sl_shaped (w v : W4) : SeqAt.shaped (sl w v) = true := by cases w <;> cases v <;> decide +kernel
abbrev kvs2 (w v : W4) (r : W4 → Rat) : List (Key × PyData) := [(.inr (wn w), fr (r w)), (.inr (wn v), fr (r v))]
theorem val_w {w v : W4} {r : W4 → Rat} : valP (kvs2 w v r) (.inr (wn w)) = some (fr (r w)) := by
  unfold valP
  rw [List.find?_cons, decide_eq_true rfl]; rfl
theorem val_v {w v : W4} {r : W4 → Rat} (h : w ≠ v) : valP (kvs2 w v r) (.inr (wn v)) = some (fr (r v)) := by
  unfold valP
  rw [List.find?_cons, decide_eq_false (fun z => wn_inj h (Sum.inr.inj z)), List.find?_cons, decide_eq_true rfl]; rfl
theorem val_u {w v u : W4} {r : W4 → Rat} (h : w ≠ v) (hu : u = w ∨ u = v) : valP (kvs2 w v r) (.inr (wn u)) = some (fr (r u)) := by
  rcases hu with z | z
  · rw [z]; exact val_w
  · rw [z]; exact val_v h
inductive Rposs : OS → List AV → (PyData → Prop) → Prop
  | mk {p : Addr} {W : Rat} {w v : W4} {r : W4 → Rat} : w ≠ v → Sz 20 W → (∀ u, Sz 80 (r u)) → Rposs [(p, .dk (kvs2 w v r))] [.d (fr W), .own p] (· = lstF (cand W w v r))
inductive Rleakw : OS → List AV → (PyData → Prop) → Prop
  | mk {p : Addr} {c : List Ln} {bk x : Rat} {w v : W4} {r : W4 → Rat} : GoodC c bk → w ≠ v → Sz 900 x → (∀ u, Sz 80 (r u)) → Rleakw [(p, .dk (kvs2 w v r))] [.d (cabD c bk), .d (fr (wholeC c)), .own p, .d (fr x)] (· = optL (lw c w v r x))
inductive Rone : OS → List AV → (PyData → Prop) → Prop
  | mk {c : List Ln} {bk : Rat} {w v : W4} {r : W4 → Rat} : GoodC c bk → w ≠ v → (∀ u, Sz 80 (r u)) → 0 ≤ r w → 0 ≤ r v → Rone [] [.d (cabD c bk), .d (.str (wn w)), .d (fr (r w)), .d (.str (wn v)), .d (fr (r v))] (· = optL (oneLk c w v r))
theorem candFE_len {W a e : Rat} : (candFE W a e).length ≤ 1 := by unfold candFE; cases sqR ((a - e) * (W - e)) <;> simp
theorem candFO_len {W a e : Rat} : (candFO W a e).length ≤ 1 := by unfold candFO; cases sqR (a * (W - e)) <;> simp
section
variable {P : Program} {w : World} {K : PySem.W.Frag} {mg : Str → Option Value} {base : Heap}
theorem d_possible_drags (T : Tx K mg) : Df P w K mg base 6 "possible_drags" Rposs := df_mk (N := ["whole", "told", "words", "some", "east"]) (ps := ["whole", "told"]) T.f_possible_drags ⟨rfl, rfl, rfl, by decide +kernel, rfl, by decide +kernel, by decide +kernel⟩ (fun _ _ _ _ _ _ us hl => match us, hl with | [_, _], _ => rfl) (fun O as B h => by cases h; rfl) fun f cdv A outer s H E hr O as B h => by
  cases h with
  | @mk p W wd v r hwv hW hz =>
  have nd : (["whole", "told", "words", "some", "east"] : List Str).Nodup := by decide +kernel
  refine rn_set 2 (ev_sortedS (ns := [wn wd, wn v]) rfl T.b_sorted (ev_v 1) List.mem_cons_self rfl (by show 2 < 64; decide)) (fun a ha => ?_) nd
  obtain ⟨ys, hp, hs, rfl⟩ := ha
  have ey := srt_is hwv hp hs
  subst ey
  have rs : ∀ u, Sz L4 (r u) := fun u => (hz u).mono (by decide)
  have md : (p, OV.dk (kvs2 wd v r)) ∈ [(p, OV.dk (kvs2 wd v r))] ∨ ∃ o us, (p, OV.dl o us (kvs2 wd v r)) ∈ [(p, OV.dk (kvs2 wd v r))] := .inl List.mem_cons_self
  refine rn_ifR (et_eq hr (ev_v 2) (ed_lst2 ed_str ed_str) ?_ ?_) (fun hk => ?_) fun k1 => rn_ifR (et_eq hr (ev_v 2) (ed_lst2 ed_str ed_str) ?_ ?_) (fun hk => ?_) fun k2 => rn_ifR (et_eq hr (ev_v 2) (ed_lst2 ed_str ed_str) ?_ ?_) (fun hk => ?_) fun k3 => rn_ifR (et_eq hr (ev_v 2) (ed_lst2 ed_str ed_str) ?_ ?_) (fun hk => ?_) fun k4 => rn_if (et_eq hr (ev_v 2) (ed_lst2 ed_str ed_str) ?_ ?_) (fun hk => ?_) fun k5 => ?_
  all_goals first | exact sl_shaped _ _ | (show SeqAt.shaped (l2 _ _) = true; decide +kernel) | skip
  · have hu := k_ff hwv hk
    have v_wf : valP (kvs2 wd v r) (.inr (wn .wf)) = some (fr (r .wf)) := val_u hwv (by rcases hu with ⟨a, b⟩ | ⟨a, b⟩ <;> simp [a, b])
    have v_ef : valP (kvs2 wd v r) (.inr (wn .ef)) = some (fr (r .ef)) := val_u hwv (by rcases hu with ⟨a, b⟩ | ⟨a, b⟩ <;> simp [a, b])
    have ec : cand W wd v r = [(W + r .wf - r .ef) / 2] := by rcases hu with ⟨rfl, rfl⟩ | ⟨rfl, rfl⟩ <;> rfl
    rw [ec]
    refine rn_ret (ed_lst1 (ed_call (d_half T) hr (by decide) (ea_cons (ed_call (d_less T) hr (by decide) (ea_cons (ed_call (d_add T) hr (by decide) (ea_cons (ev_v 0) (ea_cons (ed_dgetS hr (ev_v 1) ed_str md v_wf) ea_nil)) (r_add ?_ ?_)) (ea_cons (ed_dgetS hr (ev_v 1) ed_str md v_ef) ea_nil)) (r_less ?_ ?_)) ea_nil) (r_half ?_))) fun a z => ⟨rfl, _, z, rfl⟩
    · exact hW.mono (by decide)
    · exact rs _
    · exact (hW.add (hz _)).mono (by decide)
    · exact rs _
    · exact ((hW.add (hz _)).sub (hz _)).mono (by decide)
  · have hu := k_ee hwv hk
    have v_we : valP (kvs2 wd v r) (.inr (wn .we)) = some (fr (r .we)) := val_u hwv (by rcases hu with ⟨a, b⟩ | ⟨a, b⟩ <;> simp [a, b])
    have v_ee : valP (kvs2 wd v r) (.inr (wn .ee)) = some (fr (r .ee)) := val_u hwv (by rcases hu with ⟨a, b⟩ | ⟨a, b⟩ <;> simp [a, b])
    have ec : cand W wd v r = candEE W (r .we) (r .ee) := by rcases hu with ⟨rfl, rfl⟩ | ⟨rfl, rfl⟩ <;> rfl
    rw [ec]
    refine rn_ret (ed_call (d_by_earths T) hr (by decide) (ea_cons (ev_v 0) (ea_cons (ed_dgetS hr (ev_v 1) ed_str md v_we) (ea_cons (ed_dgetS hr (ev_v 1) ed_str md v_ee) ea_nil))) (r_by_earths ?_ ?_ ?_)) fun a z => ⟨rfl, _, z, rfl⟩
    · exact hW
    · exact hz _
    · exact hz _
  · have hu := k_ww hwv hk
    have v_wf : valP (kvs2 wd v r) (.inr (wn .wf)) = some (fr (r .wf)) := val_u hwv (by rcases hu with ⟨a, b⟩ | ⟨a, b⟩ <;> simp [a, b])
    have v_we : valP (kvs2 wd v r) (.inr (wn .we)) = some (fr (r .we)) := val_u hwv (by rcases hu with ⟨a, b⟩ | ⟨a, b⟩ <;> simp [a, b])
    have ec : cand W wd v r = candFE W (r .wf) (r .we) := by rcases hu with ⟨rfl, rfl⟩ | ⟨rfl, rfl⟩ <;> rfl
    rw [ec]
    refine rn_ret (ed_call (d_by_free_and_earth T) hr (by decide) (ea_cons (ev_v 0) (ea_cons (ed_dgetS hr (ev_v 1) ed_str md v_wf) (ea_cons (ed_dgetS hr (ev_v 1) ed_str md v_we) ea_nil))) (r_by_free_and_earth ?_ ?_ ?_)) fun a z => ⟨rfl, _, z, rfl⟩
    · exact hW
    · exact hz _
    · exact hz _
  · have hu := k_wo hwv hk
    have v_wf : valP (kvs2 wd v r) (.inr (wn .wf)) = some (fr (r .wf)) := val_u hwv (by rcases hu with ⟨a, b⟩ | ⟨a, b⟩ <;> simp [a, b])
    have v_ee : valP (kvs2 wd v r) (.inr (wn .ee)) = some (fr (r .ee)) := val_u hwv (by rcases hu with ⟨a, b⟩ | ⟨a, b⟩ <;> simp [a, b])
    have ec : cand W wd v r = candFO W (r .wf) (r .ee) := by rcases hu with ⟨rfl, rfl⟩ | ⟨rfl, rfl⟩ <;> rfl
    rw [ec]
    refine rn_ret (ed_call (d_by_free_and_far_earth T) hr (by decide) (ea_cons (ev_v 0) (ea_cons (ed_dgetS hr (ev_v 1) ed_str md v_wf) (ea_cons (ed_dgetS hr (ev_v 1) ed_str md v_ee) ea_nil))) (r_by_free_and_far_earth ?_ ?_ ?_)) fun a z => ⟨rfl, _, z, rfl⟩
    · exact hW
    · exact hz _
    · exact hz _
  · have hu := k_ef hwv hk
    have v_ef : valP (kvs2 wd v r) (.inr (wn .ef)) = some (fr (r .ef)) := val_u hwv (by rcases hu with ⟨a, b⟩ | ⟨a, b⟩ <;> simp [a, b])
    have v_ee : valP (kvs2 wd v r) (.inr (wn .ee)) = some (fr (r .ee)) := val_u hwv (by rcases hu with ⟨a, b⟩ | ⟨a, b⟩ <;> simp [a, b])
    have ec : cand W wd v r = (candFE W (r .ef) (r .ee)).map (W - ·) := by rcases hu with ⟨rfl, rfl⟩ | ⟨rfl, rfl⟩ <;> rfl
    rw [ec]
    refine rn_setd 3 (ed_call (d_by_free_and_earth T) hr (by decide) (ea_cons (ev_v 0) (ea_cons (ed_dgetS hr (ev_v 1) ed_str md v_ef) (ea_cons (ed_dgetS hr (ev_v 1) ed_str md v_ee) ea_nil))) (r_by_free_and_earth ?_ ?_ ?_)) (rn_nil ⟨fun _ h => h, ?_⟩) nd
    · exact hW
    · exact hz _
    · exact hz _
    · refine rn_ret (ed_lc (own := [("east", 4)]) rfl nd (iw_list (ev_v 3)) (fun _ h => (nomatch h)) (blkOk_by (N := ["whole", "told", "words", "some", "east"]) (sc := defScope (topS 55)) (by decide +kernel)) (tb_name 4 nd (fun _ _ _ _ _ => (pg_name (i := 4) nd rfl (Or.inl rfl)))) (fun _ _ => True.intro) ?_ ?_ (fun ci cx cy hcx hcy _ _ _ _ _ => ?_)) fun a z => ⟨rfl, _, z, rfl⟩
      · rw [List.length_map, List.length_map, List.length_map]
      · rw [List.length_map]; exact Nat.le_trans candFE_len (by decide)
      · rw [List.map_map] at hcy
        obtain ⟨q, e1, rfl⟩ := map_at hcx
        obtain ⟨q2, e2, rfl⟩ := map_at hcy
        rw [e1] at e2
        cases e2
        refine (ed_call (d_less T) hr (by decide) (ea_cons (ev_v 0) (ea_cons (ev_v 4) ea_nil)) (r_less ?_ ?_))
        · exact hW.mono (by decide)
        · exact (sz_candFE hW (hz _) (hz _) q (List.mem_of_getElem? e1)).mono (by decide)
  · have hu := k_eo hwv k1 k2 k3 k4 k5
    have v_ef : valP (kvs2 wd v r) (.inr (wn .ef)) = some (fr (r .ef)) := val_u hwv (by rcases hu with ⟨a, b⟩ | ⟨a, b⟩ <;> simp [a, b])
    have v_we : valP (kvs2 wd v r) (.inr (wn .we)) = some (fr (r .we)) := val_u hwv (by rcases hu with ⟨a, b⟩ | ⟨a, b⟩ <;> simp [a, b])
    have ec : cand W wd v r = (candFO W (r .ef) (r .we)).map (W - ·) := by rcases hu with ⟨rfl, rfl⟩ | ⟨rfl, rfl⟩ <;> rfl
    rw [ec]
    refine rn_setd 3 (ed_call (d_by_free_and_far_earth T) hr (by decide) (ea_cons (ev_v 0) (ea_cons (ed_dgetS hr (ev_v 1) ed_str md v_ef) (ea_cons (ed_dgetS hr (ev_v 1) ed_str md v_we) ea_nil))) (r_by_free_and_far_earth ?_ ?_ ?_)) (rn_nil ⟨fun _ h => h, ?_⟩) nd
    · exact hW
    · exact hz _
    · exact hz _
    · refine rn_ret (ed_lc (own := [("east", 4)]) rfl nd (iw_list (ev_v 3)) (fun _ h => (nomatch h)) (blkOk_by (N := ["whole", "told", "words", "some", "east"]) (sc := defScope (topS 55)) (by decide +kernel)) (tb_name 4 nd (fun _ _ _ _ _ => (pg_name (i := 4) nd rfl (Or.inl rfl)))) (fun _ _ => True.intro) ?_ ?_ (fun ci cx cy hcx hcy _ _ _ _ _ => ?_)) fun a z => ⟨rfl, _, z, rfl⟩
      · rw [List.length_map, List.length_map, List.length_map]
      · rw [List.length_map]; exact Nat.le_trans candFO_len (by decide)
      · rw [List.map_map] at hcy
        obtain ⟨q, e1, rfl⟩ := map_at hcx
        obtain ⟨q2, e2, rfl⟩ := map_at hcy
        rw [e1] at e2
        cases e2
        refine (ed_call (d_less T) hr (by decide) (ea_cons (ev_v 0) (ea_cons (ev_v 4) ea_nil)) (r_less ?_ ?_))
        · exact hW.mono (by decide)
        · exact (sz_candFO hW (hz _) (hz _) q (List.mem_of_getElem? e1)).mono (by decide)
end
end Ea

namespace Ea
open PySem PySem.Spec PyProof.Rows L2
theorem r_leak_with {p : Addr} {c : List Ln} {bk x : Rat} {w v : W4} {r : W4 → Rat} (h1 : GoodC c bk) (h2 : w ≠ v) (h3 : Sz 900 x) (h4 : ∀ u, Sz 80 (r u)) : Rleakw [(p, .dk (kvs2 w v r))] [.d (cabD c bk), .d (fr (wholeC c)), .own p, .d (fr x)] (· = optL (lw c w v r x)) := .mk h1 h2 h3 h4
theorem dw_pos {w : W4} {nr fa t g : Rat} (hf : 0 ≤ fa) (h : dw w nr fa t = some g) : 0 < g := by
  unfold dw at h
  by_cases h0 : 0 < t - nr
  · rw [if_neg (fun z => z h0)] at h
    by_cases hw : w.free = true
    · rw [if_pos hw] at h; cases h; exact h0
    · rw [if_neg hw] at h
      by_cases h1 : t - nr < fa
      · rw [if_neg (fun z => z h1)] at h
        have eg := Option.some.inj h
        have hd : 0 < fa - (t - nr) := by grind
        have eg2 : g * (fa - (t - nr)) = (t - nr) * fa := by rw [← eg]; grind
        have hp := Rat.mul_pos h0 (show 0 < fa by grind)
        by_cases z : 0 < g
        · exact z
        · have := Rat.mul_nonneg (show 0 ≤ -g by grind) (Rat.le_of_lt hd)
          grind
      · rw [if_pos h1] at h; cases h
  · rw [if_pos h0] at h; cases h
theorem sz_dw {w : W4} {nr fa t g : Rat} (h1 : Sz 950 nr) (h2 : Sz 950 fa) (h3 : Sz 80 t) (h : dw w nr fa t = some g) : Sz 3000 g := by
  have hs : Sz 1031 (t - nr) := (h3.sub h1).mono (by decide)
  unfold dw at h
  by_cases h0 : 0 < t - nr
  · rw [if_neg (fun z => z h0)] at h
    by_cases hw : w.free = true
    · rw [if_pos hw] at h; cases h; exact hs.mono (by decide)
    · rw [if_neg hw] at h
      by_cases h1 : t - nr < fa
      · rw [if_neg (fun z => z h1)] at h
        cases h
        exact (hs.gap h2 (fun z => by grind)).mono (by decide)
      · rw [if_pos h1] at h; cases h
  · rw [if_pos h0] at h; cases h
section
variable {P : Program} {w : World} {K : PySem.W.Frag} {mg : Str → Option Value} {base : Heap}
theorem d_leak_with (T : Tx K mg) : Df P w K mg base 6 "leak_with" Rleakw := df_mk (N := ["cable", "whole", "told", "west", "place", "word", "near", "far", "drag", "stretch", "other"]) (ps := ["cable", "whole", "told", "west"]) T.f_leak_with ⟨rfl, rfl, rfl, by decide +kernel, rfl, by decide +kernel, by decide +kernel⟩ (fun _ _ _ _ _ _ us hl => match us, hl with | [_, _, _, _], _ => rfl) (fun O as B h => by cases h; rfl) fun f cdv A outer s H E hr O as B h => by
  cases h with
  | @mk p c bk x wd v r hc hwv hx hz =>
  have nd : (["cable", "whole", "told", "west", "place", "word", "near", "far", "drag", "stretch", "other"] : List Str).Nodup := by decide +kernel
  have hW := hc.szW
  by_cases k : ¬ 0 ≤ x ∨ wholeC c < x
  · refine rn_ifRT (EvT.to (et_w (ew_or (et_not (et_val (ed_call (d_is_from_zero T) hr (by decide) (ea_cons (ev_v 3) ea_nil) (r_is_from_zero)))) fun _ => (ew_or1 (et_val (ed_call (d_is_less T) hr (by decide) (ea_cons (ev_v 1) (ea_cons (ev_v 3) ea_nil)) (r_is_less ?_ ?_)))))) ?_) (rn_ret ed_non fun a z => ⟨rfl, _, z, ?_⟩)
    · exact hW.mono (by decide)
    · exact hx.mono (by decide)
    · rcases k with k | k
      · rw [decide_eq_false k]; rfl
      · rw [decide_eq_true k, Bool.or_true]
    · unfold lw; rw [if_pos k]; rfl
  have x0 : 0 ≤ x := by
    by_cases z : 0 ≤ x
    · exact z
    · exact absurd (.inl z) k
  have x1 : x ≤ wholeC c := Rat.not_lt.mp fun z => k (.inr z)
  have f0 : 0 ≤ wholeC c - x := by grind
  have hf : Sz 921 (wholeC c - x) := hW.sub hx
  have hpl : Sz 1000 (placeC c x) := (sz_placeC c x 900 hc.all hx).mono (by have := hc.len3; omega)
  have edp := dragC_placeC c x hc.all x0 x1
  refine rn_ifF (EvT.to (et_w (ew_or (et_not (et_val (ed_call (d_is_from_zero T) hr (by decide) (ea_cons (ev_v 3) ea_nil) (r_is_from_zero)))) fun _ => (ew_or1 (et_val (ed_call (d_is_less T) hr (by decide) (ea_cons (ev_v 1) (ea_cons (ev_v 3) ea_nil)) (r_is_less ?_ ?_)))))) ?_) (rn_setd 4 (ed_call (d_place_with T) hr (by decide) (ea_cons (ev_v 0) (ea_cons (ev_v 3) ea_nil)) (r_place_with ?_ ?_)) ?_ nd)
  · exact hW.mono (by decide)
  · exact hx.mono (by decide)
  · rw [decide_eq_true x0, decide_eq_false (fun z => k (.inr z))]; rfl
  · exact hc
  · exact hx.mono (by decide)
  refine rn_forD (fun i ds => (∃ o5 o6 o7 o8 o9 o10, ds = [some (.d (cabD c bk)), some (.d (fr (wholeC c))), some (.own p), some (.d (fr x)), some (.d (fr (placeC c x))), o5, o6, o7, o8, o9, o10]) ∧ (1 ≤ i → tryW c wd v r x wd = none) ∧ (2 ≤ i → tryW c wd v r x v = none)) PassesOwn.never rfl ⟨⟨none, none, none, none, none, none, rfl⟩, fun z => absurd z (by decide), fun z => absurd z (by decide)⟩ (fun od us => (ev_v 2)) (fun od us i ky y ds' hy inv => ?_) fun ds' inv => ?_
  · obtain ⟨⟨o5, o6, o7, o8, o9, o10, rfl⟩, t1, t2⟩ := inv
    have hi : (i = 0 ∧ ky = .inr (wn wd) ∧ y = fr (r wd)) ∨ (i = 1 ∧ ky = .inr (wn v) ∧ y = fr (r v)) := by
      match i, hy with
      | 0, hy => cases hy; exact .inl ⟨rfl, rfl, rfl⟩
      | 1, hy => cases hy; exact .inr ⟨rfl, rfl, rfl⟩
      | _ + 2, hy => cases hy
    obtain ⟨u, hu, hku, hres⟩ : ∃ u : W4, (u = wd ∨ u = v) ∧ ky = .inr (wn u) ∧ (∀ l, tryW c wd v r x u = some l → optL (lw c wd v r x) = optL (some l)) ∧ (tryW c wd v r x u = none → (1 ≤ i + 1 → tryW c wd v r x wd = none) ∧ (2 ≤ i + 1 → tryW c wd v r x v = none)) := by
      rcases hi with ⟨rfl, hk, _⟩ | ⟨rfl, hk, _⟩
      · refine ⟨wd, .inl rfl, hk, fun l hl => by unfold lw; rw [if_neg k, hl], fun hn => ⟨fun _ => hn, fun z => absurd z (by decide)⟩⟩
      · refine ⟨v, .inr rfl, hk, fun l hl => by unfold lw; rw [if_neg k, t1 (by decide)]; exact congrArg optL hl, fun hn => ⟨fun _ => t1 (by decide), fun _ => hn⟩⟩
    obtain ⟨hres1, hres2⟩ := hres
    subst hku
    refine ⟨_, tg_name 5 nd, ?_⟩
    have md : (p, OV.dk (kvs2 wd v r)) ∈ [(p, OV.dl od us (kvs2 wd v r))] ∨ ∃ o us', (p, OV.dl o us' (kvs2 wd v r)) ∈ [(p, OV.dl od us (kvs2 wd v r))] := .inr ⟨od, us, List.mem_cons_self⟩
    have v_word : valP (kvs2 wd v r) (.inr (wn u)) = some (fr (r u)) := val_u hwv hu
    have sn : Sz 950 (near u x (wholeC c - x)) := by unfold near; split; exact hf.mono (by decide); exact hx.mono (by decide)
    have sf : Sz 950 (far u x (wholeC c - x)) := by unfold far; split; exact hx.mono (by decide); exact hf.mono (by decide)
    have fn := far_nn (w := u) x0 f0
    have key : Rn (Bx P w K mg base ["cable", "whole", "told", "west", "place", "word", "near", "far", "drag", "stretch", "other"] "leak_with" (topS 56) f cdv A outer s H E) [(p, .dl od us (kvs2 wd v r))] ((forBody ((defBody (topS 56)).drop 2)).drop 2) [some (.d (cabD c bk)), some (.d (fr (wholeC c))), some (.own p), some (.d (fr x)), some (.d (fr (placeC c x))), some (.d (.str (wn u))), some (.d (fr (near u x (wholeC c - x)))), some (.d (fr (far u x (wholeC c - x)))), o8, o9, o10]
        (fun O2 ds3 => O2 = [(p, .dl od us (kvs2 wd v r))] ∧ (∃ o5 o6 o7 o8 o9 o10, ds3 = [some (.d (cabD c bk)), some (.d (fr (wholeC c))), some (.own p), some (.d (fr x)), some (.d (fr (placeC c x))), o5, o6, o7, o8, o9, o10]) ∧ (1 ≤ i + 1 → tryW c wd v r x wd = none) ∧ (2 ≤ i + 1 → tryW c wd v r x v = none))
        (fun O2 a => O2 = [(p, .dl od us (kvs2 wd v r))] ∧ [(p, OV.dk (kvs2 wd v r))] = [(p, .dk (kvs2 wd v r))] ∧ ∃ d, a = .d d ∧ d = optL (lw c wd v r x)) := by
      refine rn_setd 8 (ed_call (d_drag_with T) hr (by decide) (ea_cons (ev_v 6) (ea_cons (ev_v 7) (ea_cons (ev_v 5) (ea_cons (ed_dgetS hr (ev_v 2) (ev_v 5) md v_word) ea_nil)))) (r_drag_with ?_ ?_ ?_)) ?_ nd
      · exact sn.mono (by decide)
      · exact sf.mono (by decide)
      · exact (hz _).mono (by decide)
      cases q : dw u (near u x (wholeC c - x)) (far u x (wholeC c - x)) (r u) with
      | none =>
        have tn : tryW c wd v r x u = none := by unfold tryW; rw [q]
        exact rn_ifF (EvT.to (et_notN (ev_v 8)) (by rfl)) (rn_nil ⟨rfl, ⟨_, _, _, _, _, _, rfl⟩, hres2 tn⟩)
      | some g =>
        have gp := dw_pos fn q
        have sg := sz_dw sn sf (hz u) q
        refine rn_ifT (EvT.to (et_notN (ev_v 8)) (by rfl)) (rn_setd 9 (ed_call (d_stretch_by T) hr (by decide) (ea_cons (ev_v 0) (ea_cons (ed_tup1 (ed_tup2 (ev_v 4) (ev_v 8))) ea_nil)) (r_stretch_by ?_ ?_ ?_)) ?_ nd)
        · exact hc
        · exact hpl.mono (by decide)
        · rw [edp]; exact hx.mono (by decide)
        rw [edp]
        refine rn_ifR (et_val (ed_all (ns := [decide (rd wd x (wholeC c - x) g = r wd), decide (rd v x (wholeC c - x) g = r v)]) rfl T.b_all (ed_lc (own := [("other", 10)]) rfl nd (iw_keys (ev_v 2) List.mem_cons_self) (fun q hq => by rw [List.mem_singleton.mp hq]; exact List.mem_cons_self) (blkOk_by (N := ["cable", "whole", "told", "west", "place", "word", "near", "far", "drag", "stretch", "other"]) (sc := defScope (topS 56)) (by decide +kernel)) (tb_name 10 nd (fun _ _ _ _ _ => (pg_name (i := 10) nd rfl (Or.inl rfl)))) (fun _ _ => True.intro) ?_ ?_ (fun ci cx cy hcx hcy _ _ _ _ _ => ?_)))) (fun hk => rn_ret (ed_tup2 (ev_v 4) (ev_v 8)) fun a z => ⟨rfl, rfl, _, z, ?_⟩) fun hk => rn_nil ⟨fun _ h => h, rn_nil ⟨rfl, ⟨_, _, _, _, _, _, rfl⟩, hres2 ?_⟩⟩
        · rfl
        · show 2 ≤ 1000; decide
        · obtain ⟨u2, hu2, e1, e2⟩ : ∃ u2, (u2 = wd ∨ u2 = v) ∧ cx = .str (wn u2) ∧ cy = .bool (decide (rd u2 x (wholeC c - x) g = r u2)) := by
            match ci, hcx, hcy with
            | 0, hcx, hcy => cases hcx; cases hcy; exact ⟨wd, .inl rfl, rfl, rfl⟩
            | 1, hcx, hcy => cases hcx; cases hcy; exact ⟨v, .inr rfl, rfl, rfl⟩
            | _ + 2, hcx, hcy => cases hcx
          subst e1 e2
          have v_other : valP (kvs2 wd v r) (.inr (wn u2)) = some (fr (r u2)) := val_u hwv hu2
          rw [← fr_eqv]
          refine (ed_eq hr (ed_call (d_reading T) hr (by decide) (ea_cons (ev_v 9) (ea_cons (ed_ixT (ev_v 0) ed_int) (ea_cons (ev_v 10) ea_nil))) (r_reading ?_ ?_ ?_ ?_ ?_ ?_)) (ed_dgetS hr (ev_v 2) (ev_v 10) md v_other) ?_ ?_)
          · exact hx.mono (by decide)
          · exact hf.mono (by decide)
          · exact sg
          · exact x0
          · exact f0
          · exact gp
          · exact fr_shaped _
          · exact fr_shaped _
        · have hb : rd wd x (wholeC c - x) g = r wd ∧ rd v x (wholeC c - x) g = r v := by
            have h2 : (decide (rd wd x (wholeC c - x) g = r wd) && (decide (rd v x (wholeC c - x) g = r v) && true)) = true := hk
            rw [Bool.and_true, Bool.and_eq_true, decide_eq_true_eq, decide_eq_true_eq] at h2
            exact h2
          have ht : tryW c wd v r x u = some (placeC c x, g) := by unfold tryW; rw [q]; exact if_pos hb
          rw [hres1 _ ht]; rfl
        · have hb : ¬ (rd wd x (wholeC c - x) g = r wd ∧ rd v x (wholeC c - x) g = r v) := fun hb => by
            have h2 : (decide (rd wd x (wholeC c - x) g = r wd) && (decide (rd v x (wholeC c - x) g = r v) && true)) = false := hk
            rw [decide_eq_true hb.1, decide_eq_true hb.2] at h2
            cases h2
          unfold tryW; rw [q]; exact if_neg hb
    refine rn_par 6 7 (ea_cons (ev_v 3) (ea_cons (ed_call (d_less T) hr (by decide) (ea_cons (ev_v 1) (ea_cons (ev_v 3) ea_nil)) (r_less ?_ ?_)) ea_nil)) ?_ rfl nd
    · exact hW.mono (by decide)
    · exact hx.mono (by decide)
    refine rn_if (EvT.to (et_inS (ev_v 5) (ed_glob T.c_EAST)) (wn_east u)) (fun hk => rn_thru (rn_par 6 7 (ea_cons (ev_v 7) (ea_cons (ev_v 6) ea_nil)) (rn_nil ⟨rfl, rfl⟩) rfl nd) ?_) fun hk => rn_nil ⟨fun _ h => h, ?_⟩
    · unfold near far at key; rw [hk, if_pos rfl, if_pos rfl] at key; exact key
    · unfold near far at key; rw [hk, if_neg Bool.false_ne_true, if_neg Bool.false_ne_true] at key; exact key
  · obtain ⟨⟨o5, o6, o7, o8, o9, o10, rfl⟩, t1, t2⟩ := inv
    refine rn_ret ed_non fun a z => ⟨rfl, _, z, ?_⟩
    have e1 := t1 (by show 1 ≤ 2; decide)
    have e2 := t2 (by show 2 ≤ 2; decide)
    have : lw c wd v r x = none := by unfold lw; rw [if_neg k, e1]; exact e2
    rw [this]; rfl
end
end Ea

namespace Ea
open PySem PySem.Spec PyProof.Rows L2
theorem optL_non {o : Option (Rat × Rat)} : isNon (optL o) = o.isNone := by cases o <;> rfl
theorem r_one_leak {c : List Ln} {bk : Rat} {w v : W4} {r : W4 → Rat} (h1 : GoodC c bk) (h2 : w ≠ v) (h3 : ∀ u, Sz 80 (r u)) (h4 : 0 ≤ r w) (h5 : 0 ≤ r v) : Rone [] [.d (cabD c bk), .d (.str (wn w)), .d (fr (r w)), .d (.str (wn v)), .d (fr (r v))] (· = optL (oneLk c w v r)) := .mk h1 h2 h3 h4 h5
section
variable {P : Program} {w : World} {K : PySem.W.Frag} {mg : Str → Option Value} {base : Heap}
theorem d_one_leak (T : Tx K mg) : Df P w K mg base 7 "one_leak" Rone := df_mk2 (N := ["cable", "word", "first", "other", "second", "whole", "told", "west", "leak"]) (ps := ["cable", "word", "first", "other", "second"]) T.f_one_leak ⟨rfl, rfl, rfl, by decide +kernel, rfl, by decide +kernel, by decide +kernel⟩ (fun _ _ _ _ _ _ us hl => match us, hl with | [_, _, _, _, _], _ => rfl) (fun O as B h => by cases h; rfl) fun f cdv A outer s H E hr O as B h => by
  cases h with
  | @mk c bk wd v r hc hwv hz p1 p2 =>
  have nd : (["cable", "word", "first", "other", "second", "whole", "told", "west", "leak"] : List Str).Nodup := by decide +kernel
  have hW := hc.szW
  refine rn_expr (ed_call (d_check_cable T) hr (by decide) (ea_cons (ev_v 0) ea_nil) (r_check_cable ?_)) (rn_expr (ed_call (d_check_word T) hr (by decide) (ea_cons (ev_v 1) ea_nil) (r_check_word)) (rn_expr (ed_call (d_check_reading T) hr (by decide) (ea_cons (ev_v 2) ea_nil) (r_check_reading ?_)) (rn_expr (ed_call (d_check_word T) hr (by decide) (ea_cons (ev_v 3) ea_nil) (r_check_word)) (rn_ifF (EvT.to (et_eqS (ev_v 3) (ev_v 1)) (decide_eq_false (wn_inj (Ne.symm hwv)))) (rn_expr (ed_call (d_check_reading T) hr (by decide) (ea_cons (ev_v 4) ea_nil) (r_check_reading ?_)) (rn_setd 5 (ed_call (d_all_drag T) hr (by decide) (ea_cons (ev_v 0) ea_nil) (r_all_drag ?_)) ?_ nd))))))
  · exact hc
  · exact p1
  · exact p2
  · exact hc
  refine rn_disp2 6 (ev_v 1) (ev_v 2) (ev_v 3) (ev_v 4) (wn_inj hwv) (fun p => ?_) nd
  have hso : subO [(p, OV.dk (kvs2 wd v r))] [(p, OV.dk (kvs2 wd v r))] := subO_one List.mem_cons_self
  refine rn_for0 (xs := (cand (wholeC c) wd v r).map fr) (fun i ds => (∃ o7 o8, ds = [some (.d (cabD c bk)), some (.d (.str (wn wd))), some (.d (fr (r wd))), some (.d (.str (wn v))), some (.d (fr (r v))), some (.d (fr (wholeC c))), some (.own p), o7, o8]) ∧ ((cand (wholeC c) wd v r).take i).findSome? (lw c wd v r) = none) PassesOwn.never rfl (iw_list (ed_callO (d_possible_drags T) hr (by decide) (ea_cons (ev_v 5) (ea_cons (ev_v 6) ea_nil)) (.mk hwv hW hz) hso)) ⟨⟨none, none, rfl⟩, rfl⟩ (fun i y ds' hy inv => ?_) fun ds' inv => ?_
  · obtain ⟨x, e1, rfl⟩ := map_at hy
    obtain ⟨⟨o7, o8, rfl⟩, hn⟩ := inv
    have sx := sz_cand hW hz x (List.mem_of_getElem? e1)
    refine ⟨_, tg_name 7 nd, rn_setd 8 (ed_callO (d_leak_with T) hr (by decide) (ea_cons (ev_v 0) (ea_cons (ev_v 5) (ea_cons (ev_v 6) (ea_cons (ev_v 7) ea_nil)))) (.mk hc hwv sx hz) hso) ?_ nd⟩
    have hi := (List.getElem?_eq_some_iff.mp e1).1
    have et : (cand (wholeC c) wd v r).take (i + 1) = (cand (wholeC c) wd v r).take i ++ [x] := by rw [List.take_add_one, e1]; rfl
    cases q : lw c wd v r x with
    | none =>
      refine rn_ifF (EvT.to (et_notN (ev_v 8)) (by rfl)) (rn_nil ⟨rfl, ⟨_, _, rfl⟩, ?_⟩)
      rw [et, List.findSome?_append, hn]
      show List.findSome? (lw c wd v r) [x] = none
      rw [List.findSome?_cons, q]; rfl
    | some l =>
      refine rn_ifRT (EvT.to (et_notN (ev_v 8)) (by rfl)) (rn_ret (ev_v 8) fun a z => ⟨fun _ h => (nomatch h), _, z, ?_⟩)
      have : oneLk c wd v r = some l := by
        unfold oneLk
        rw [← List.take_append_drop (i + 1) (cand (wholeC c) wd v r), et, List.findSome?_append, List.findSome?_append, hn]
        show (List.findSome? (lw c wd v r) [x]).or _ = some l
        rw [List.findSome?_cons, q]; rfl
      rw [this]
  · obtain ⟨⟨o7, o8, rfl⟩, hn⟩ := inv
    rw [List.length_map, List.take_length] at hn
    refine rn_ret ed_non fun a z => ⟨fun _ h => (nomatch h), _, z, ?_⟩
    have : oneLk c wd v r = none := hn
    rw [this]; rfl
end
end Ea

namespace Ea
open PySem PySem.Spec PyProof.Rows L2
/-! ### the law's own fractions and cables -/
theorem r__law_low {t b : Int} (hb : b ≠ 0) (hz : Sm 9000 b.natAbs) : Rlow [] [.d (.int t), .d (.int b)] (· = fr (Rat.divInt t b)) := r_low hb hz
theorem r__law_plus {p q : Rat} (h : Sz L4 p) (h' : Sz L4 q) : Rop2 (· + ·) [] [.d (fr p), .d (fr q)] (· = fr (p + q)) := r_add h h'
theorem r__law_minus {p q : Rat} (h : Sz L4 p) (h' : Sz L4 q) : Rop2 (· - ·) [] [.d (fr p), .d (fr q)] (· = fr (p - q)) := r_less h h'
theorem r__law_times {p q : Rat} (h : Sz L4 p) (h' : Sz L4 q) : Rop2 (· * ·) [] [.d (fr p), .d (fr q)] (· = fr (p * q)) := r_mul h h'
theorem r__law_over {p q : Rat} (h : Sz L4 p) (h' : Sz L4 q) (hq : q ≠ 0) : Rdiv [] [.d (fr p), .d (fr q)] (· = fr (p / q)) := r_div h h' hq
theorem r__law_below {p q : Rat} (h : Sz L4 p) (h' : Sz L4 q) : Rless [] [.d (fr p), .d (fr q)] (· = .bool (decide (p < q))) := r_is_less h h'
theorem r__law_all {c : List Ln} {bk : Rat} (h : GoodC c bk) : Rcable (fun c _ => fr (wholeC c)) [] [.d (cabD c bk)] (· = fr (wholeC c)) := r_all_drag h
def Rdto : RF := fun O as B => ∃ c bk x, O = [] ∧ as = [.d (cabD c bk), .d (fr x)] ∧ GoodC c bk ∧ Sz 4000 x ∧ 0 ≤ x ∧ B = (· = fr (dragC c x))
theorem r__law_drag_to {c : List Ln} {bk x : Rat} (h : GoodC c bk) (hz : Sz 4000 x) (h0 : 0 ≤ x) : Rdto [] [.d (cabD c bk), .d (fr x)] (· = fr (dragC c x)) := ⟨c, bk, x, rfl, rfl, h, hz, h0, rfl⟩
theorem r__law_place_at {c : List Ln} {bk x : Rat} (h : GoodC c bk) (hz : Sz 4000 x) : Rat2 (fun c x => fr (placeC c x)) [] [.d (cabD c bk), .d (fr x)] (· = fr (placeC c x)) := r_place_with h hz
section
variable {P : Program} {w : World} {K : PySem.W.Frag} {mg : Str → Option Value} {base : Heap}
theorem d__law_low (T : Tx K mg) : Df P w K mg base 1 "_law_low" Rlow := df_mk (N := ["_law_top", "_law_bottom", "_law_one", "_law_other"]) (ps := ["_law_top", "_law_bottom"]) T.f__law_low ⟨rfl, rfl, rfl, by decide +kernel, rfl, by decide +kernel, by decide +kernel⟩ (fun _ _ _ _ _ _ us hl => match us, hl with | [_, _], _ => rfl) (fun O as B h => by obtain ⟨t, b, _, rfl, _⟩ := h; rfl) fun f cdv A outer s H E hr O as B h => by
  obtain ⟨t, b, rfl, rfl, hb, hz, rfl⟩ := h
  have nd : (["_law_top", "_law_bottom", "_law_one", "_law_other"] : List Str).Nodup := by decide +kernel
  have key : ∀ (t' : Int) (n : Nat), n ≠ 0 → Sm 9000 n → Rat.divInt t' n = Rat.divInt t b → Rn (Bx P w K mg base ["_law_top", "_law_bottom", "_law_one", "_law_other"] "_law_low" (topS 62) f cdv A outer s H E) [] ((defBody (topS 62)).drop 1) [some (.d (.int t')), some (.d (.int n)), none, none] (fun O' _ => O' = [] ∧ PyData.none = fr (Rat.divInt t b)) (fun O' a => O' = [] ∧ ∃ d, a = .d d ∧ d = fr (Rat.divInt t b)) := fun t' n h1 h2 h3 => by
    obtain ⟨e1, e2⟩ := low_eq (t := t') h1
    have gp : 0 < Nat.gcd t'.natAbs n := Nat.gcd_pos_of_pos_right _ (by omega)
    have gl : Nat.gcd t'.natAbs n < 2 ^ 9000 := Nat.lt_of_le_of_lt (Nat.gcd_le_right _ (by omega)) h2.lt
    have gd : CDivW t' (Nat.gcd t'.natAbs n : Nat) ∧ CDivW n (Nat.gcd t'.natAbs n : Nat) := ⟨wide_div (Int.natCast_pos.mpr gp) (by rw [Int.natAbs_natCast]; exact gl) (by decide) (by decide), wide_div (Int.natCast_pos.mpr gp) (by rw [Int.natAbs_natCast]; exact gl) (by decide) (by decide)⟩
    refine rn_par 2 3 (ea_cons (ed_abs T.b_abs (ev_v 0)) (ea_cons (ev_v 1) ea_nil)) ?_ rfl nd
    refine rn_while (fun ds => ∃ k l : Nat, ds = [some (.d (.int t')), some (.d (.int n)), some (.d (.int k)), some (.d (.int l))] ∧ Nat.gcd k l = Nat.gcd t'.natAbs n) (fun ds => match ds with
      | [_, _, _, some (.d (.int n))] => n.toNat
      | _ => 0) PassesOwn.never ⟨t'.natAbs, n, rfl, rfl⟩ fun ds' h => ?_
    obtain ⟨k, l, rfl, hg⟩ := h
    refine ⟨_, (et_gt (ev_v 3) ed_int), fun hk => ?_, fun hk => ?_⟩
    · have hn : 0 < (l : Int) := of_decide_eq_true hk
      refine rn_par 2 3 (ea_cons (ev_v 3) (ea_cons (ed_mod (ev_v 2) (ev_v 3) ?_) ea_nil)) (rn_nil ?_) rfl nd
      · exact hn
      · refine ⟨rfl, ⟨l, k % l, by rw [Int.natCast_emod]; rfl, ?_⟩, ?_⟩
        · rw [← hg, Nat.gcd_comm k l, Nat.gcd_rec l k, Nat.gcd_comm]
        · show ((k : Int) % (l : Int)).toNat < (l : Int).toNat
          have := Nat.mod_lt k (show 0 < l by omega)
          omega
    · have hn : ¬ 0 < (l : Int) := of_decide_eq_false hk
      have e : l = 0 := by omega
      subst e
      rw [Nat.gcd_zero_right] at hg
      subst hg
      refine rn_ret (ed_tup2 (ed_fdiv (ev_v 0) (ev_v 2) ?_) (ed_fdiv (ev_v 1) (ev_v 2) ?_)) fun a q => ⟨rfl, _, q, ?_⟩
      · exact gd.1
      · exact gd.2
      · rw [← h3]
        show PyData.tuple [.int _, .int _] = PyData.tuple [.int _, .int _]
        rw [e1, e2]
  by_cases h0 : b < 0
  · obtain ⟨n, rfl⟩ : ∃ n : Nat, b = -(n : Int) := ⟨(-b).toNat, by omega⟩
    have hn : n ≠ 0 := by omega
    have e1 : (0 : Int) - t = -t := by omega
    have e2 : (0 : Int) - -(n : Int) = (n : Nat) := by omega
    have hz' : Sm 9000 n := by rw [Int.natAbs_neg, Int.natAbs_natCast] at hz; exact hz
    refine rn_ifT (EvT.to (et_lt (ev_v 1) ed_int) (decide_eq_true h0)) (rn_thru (ds' := [some (.d (.int (-t))), some (.d (.int (n : Nat))), none, none]) (rn_par 0 1 (ea_cons (ed_sub ed_int (ev_v 0)) (ea_cons (ed_sub ed_int (ev_v 1)) ea_nil)) (rn_nil ⟨rfl, ?_⟩) rfl nd) (key (-t) n hn hz' ?_))
    · rw [e1, e2]; rfl
    · rw [show (n : Int) = - -(n : Int) by omega, neg_divInt_neg]
      rw [Int.neg_neg]
  · obtain ⟨n, rfl⟩ : ∃ n : Nat, b = (n : Int) := ⟨b.toNat, by omega⟩
    exact rn_ifF (EvT.to (et_lt (ev_v 1) ed_int) (decide_eq_false h0)) (key t n (by omega) (by rw [Int.natAbs_natCast] at hz; exact hz) rfl)
theorem d__law_plus (T : Tx K mg) : Df P w K mg base 2 "_law_plus" (Rop2 (· + ·)) := df_mk (N := ["_law_a", "_law_b"]) (ps := ["_law_a", "_law_b"]) T.f__law_plus ⟨rfl, rfl, rfl, by decide +kernel, rfl, by decide +kernel, by decide +kernel⟩ (fun _ _ _ _ _ _ us hl => match us, hl with | [_, _], _ => rfl) (fun O as B h => by obtain ⟨p, q, _, rfl, _⟩ := h; rfl) fun f cdv A outer s H E hr O as B h => by
  obtain ⟨p, q, rfl, rfl, hp, hq, rfl⟩ := h
  refine rn_ret (ed_call (d__law_low T) hr (by decide) (ea_cons (ed_add (ed_mul (ed_ixT (ev_v 0) ed_int) (ed_ixT (ev_v 1) ed_int) ?_) (ed_mul (ed_ixT (ev_v 1) ed_int) (ed_ixT (ev_v 0) ed_int) ?_)) (ea_cons (ed_mul (ed_ixT (ev_v 0) ed_int) (ed_ixT (ev_v 1) ed_int) ?_) ea_nil)) (r__law_low ?_ ?_)) fun a z => ⟨rfl, _, z, ?_⟩
  · exact cm hp.num hq.deni
  · exact cm hq.num hp.deni
  · exact cm hp.deni hq.deni
  · exact ne_mulI
  · exact (hp.deni.muli hq.deni).mono (by decide)
  · rw [add_low]
theorem d__law_minus (T : Tx K mg) : Df P w K mg base 2 "_law_minus" (Rop2 (· - ·)) := df_mk (N := ["_law_a", "_law_b"]) (ps := ["_law_a", "_law_b"]) T.f__law_minus ⟨rfl, rfl, rfl, by decide +kernel, rfl, by decide +kernel, by decide +kernel⟩ (fun _ _ _ _ _ _ us hl => match us, hl with | [_, _], _ => rfl) (fun O as B h => by obtain ⟨p, q, _, rfl, _⟩ := h; rfl) fun f cdv A outer s H E hr O as B h => by
  obtain ⟨p, q, rfl, rfl, hp, hq, rfl⟩ := h
  refine rn_ret (ed_call (d__law_low T) hr (by decide) (ea_cons (ed_sub (ed_mul (ed_ixT (ev_v 0) ed_int) (ed_ixT (ev_v 1) ed_int) ?_) (ed_mul (ed_ixT (ev_v 1) ed_int) (ed_ixT (ev_v 0) ed_int) ?_)) (ea_cons (ed_mul (ed_ixT (ev_v 0) ed_int) (ed_ixT (ev_v 1) ed_int) ?_) ea_nil)) (r__law_low ?_ ?_)) fun a z => ⟨rfl, _, z, ?_⟩
  · exact cm hp.num hq.deni
  · exact cm hq.num hp.deni
  · exact cm hp.deni hq.deni
  · exact ne_mulI
  · exact (hp.deni.muli hq.deni).mono (by decide)
  · rw [sub_low]
theorem d__law_times (T : Tx K mg) : Df P w K mg base 2 "_law_times" (Rop2 (· * ·)) := df_mk (N := ["_law_a", "_law_b"]) (ps := ["_law_a", "_law_b"]) T.f__law_times ⟨rfl, rfl, rfl, by decide +kernel, rfl, by decide +kernel, by decide +kernel⟩ (fun _ _ _ _ _ _ us hl => match us, hl with | [_, _], _ => rfl) (fun O as B h => by obtain ⟨p, q, _, rfl, _⟩ := h; rfl) fun f cdv A outer s H E hr O as B h => by
  obtain ⟨p, q, rfl, rfl, hp, hq, rfl⟩ := h
  refine rn_ret (ed_call (d__law_low T) hr (by decide) (ea_cons (ed_mul (ed_ixT (ev_v 0) ed_int) (ed_ixT (ev_v 1) ed_int) ?_) (ea_cons (ed_mul (ed_ixT (ev_v 0) ed_int) (ed_ixT (ev_v 1) ed_int) ?_) ea_nil)) (r__law_low ?_ ?_)) fun a z => ⟨rfl, _, z, ?_⟩
  · exact cm hp.num hq.num
  · exact cm hp.deni hq.deni
  · exact ne_mulI
  · exact (hp.deni.muli hq.deni).mono (by decide)
  · rw [mul_low]
theorem d__law_over (T : Tx K mg) : Df P w K mg base 2 "_law_over" Rdiv := df_mk (N := ["_law_a", "_law_b"]) (ps := ["_law_a", "_law_b"]) T.f__law_over ⟨rfl, rfl, rfl, by decide +kernel, rfl, by decide +kernel, by decide +kernel⟩ (fun _ _ _ _ _ _ us hl => match us, hl with | [_, _], _ => rfl) (fun O as B h => by obtain ⟨p, q, _, rfl, _⟩ := h; rfl) fun f cdv A outer s H E hr O as B h => by
  obtain ⟨p, q, rfl, rfl, hp, hq, hz, rfl⟩ := h
  refine rn_ret (ed_call (d__law_low T) hr (by decide) (ea_cons (ed_mul (ed_ixT (ev_v 0) ed_int) (ed_ixT (ev_v 1) ed_int) ?_) (ea_cons (ed_mul (ed_ixT (ev_v 0) ed_int) (ed_ixT (ev_v 1) ed_int) ?_) ea_nil)) (r__law_low ?_ ?_)) fun a z => ⟨rfl, _, z, ?_⟩
  · exact cm hp.num hq.deni
  · exact cm hp.deni hq.num
  · exact Int.mul_ne_zero (dzI p) (nz hz)
  · exact (hp.deni.muli hq.num).mono (by decide)
  · rw [div_low p q hz]
theorem d__law_below (T : Tx K mg) : Df P w K mg base 1 "_law_below" Rless := df_mk (N := ["_law_a", "_law_b"]) (ps := ["_law_a", "_law_b"]) T.f__law_below ⟨rfl, rfl, rfl, by decide +kernel, rfl, by decide +kernel, by decide +kernel⟩ (fun _ _ _ _ _ _ us hl => match us, hl with | [_, _], _ => rfl) (fun O as B h => by obtain ⟨p, q, _, rfl, _⟩ := h; rfl) fun f cdv A outer s H E hr O as B h => by
  obtain ⟨p, q, rfl, rfl, hp, hq, rfl⟩ := h
  refine rn_ret (ed_lt (ed_mul (ed_ixT (ev_v 0) ed_int) (ed_ixT (ev_v 1) ed_int) ?_) (ed_mul (ed_ixT (ev_v 1) ed_int) (ed_ixT (ev_v 0) ed_int) ?_)) fun a z => ⟨rfl, _, z, ?_⟩
  · exact cm hp.num hq.deni
  · exact cm hq.num hp.deni
  · rw [decide_eq_decide.mpr (Rat.lt_iff p q)]
theorem d__law_all (T : Tx K mg) : Df P w K mg base 3 "_law_all" (Rcable (fun c _ => fr (wholeC c))) := df_mk (N := ["_law_cable_here", "_law_found", "_law_steps", "_law_drag"]) (ps := ["_law_cable_here"]) T.f__law_all ⟨rfl, rfl, rfl, by decide +kernel, rfl, by decide +kernel, by decide +kernel⟩ (fun _ _ _ _ _ _ us hl => match us, hl with | [_], _ => rfl) (fun O as B h => by obtain ⟨c, bk, _, rfl, _⟩ := h; rfl) fun f cdv A outer s H E hr O as B h => by
  obtain ⟨c, bk, rfl, rfl, hc, rfl⟩ := h
  have nd : (["_law_cable_here", "_law_found", "_law_steps", "_law_drag"] : List Str).Nodup := by decide +kernel
  have h2 := hc.len3
  refine rn_setd 1 (ed_zeroF (ed_tup2 ed_int ed_int)) ?_ nd
  refine rn_for0 (fun i ds => ∃ o1 o2, ds = [some (.d (cabD c bk)), some (.d (fr (wholeC (c.take i)))), o1, o2]) PassesOwn.never rfl (iw_tup (ed_ixT (ev_v 0) ed_int)) ⟨none, none, rfl⟩ (fun i x ds' hx inv => ?_) fun ds' inv => ?_
  · obtain ⟨l, e1, rfl⟩ := map_at hx
    obtain ⟨o1, o2, rfl⟩ := inv
    have hl := hc.all l (List.mem_of_getElem? e1)
    have sz1 : Sz 46 (wholeC (c.take i)) := (sz_wholeC _ fun x hx => hc.all x (List.mem_of_mem_take hx)).mono (by rw [List.length_take]; omega)
    refine ⟨_, tg_pair rfl (tg_name 2 nd) (tg_name 3 nd), rn_setd 1 (ed_call (d__law_plus T) hr (by decide) (ea_cons (ev_v 1) (ea_cons (ed_call (d__law_times T) hr (by decide) (ea_cons (ed_natF (ed_tup2 (ev_v 2) ed_int)) (ea_cons (ev_v 3) ea_nil)) (r__law_times ?_ ?_)) ea_nil)) (r__law_plus ?_ ?_)) (rn_nil ⟨rfl, some (.d (.int (l.1 : Nat))), some (.d (fr l.2)), ?_⟩) nd⟩
    · exact hl.sn.mono (by decide)
    · exact hl.sd.mono (by decide)
    · exact sz1.mono (by decide)
    · exact (hl.sn.mul hl.sd).mono (by decide)
    · rw [wholeC_take e1]; rfl
  · obtain ⟨o1, o2, rfl⟩ := inv
    rw [List.length_map, List.take_length]
    exact rn_ret (ev_v 1) fun a z => ⟨rfl, _, z, rfl⟩
theorem d__law_drag_to (T : Tx K mg) : Df P w K mg base 3 "_law_drag_to" Rdto := df_mk (N := ["_law_cable_here", "_law_place", "_law_found", "_law_start", "_law_steps", "_law_drag", "_law_along"]) (ps := ["_law_cable_here", "_law_place"]) T.f__law_drag_to ⟨rfl, rfl, rfl, by decide +kernel, rfl, by decide +kernel, by decide +kernel⟩ (fun _ _ _ _ _ _ us hl => match us, hl with | [_, _], _ => rfl) (fun O as B h => by obtain ⟨c, bk, x, _, rfl, _⟩ := h; rfl) fun f cdv A outer s H E hr O as B h => by
  obtain ⟨c, bk, x, rfl, rfl, hc, hz, h0, rfl⟩ := h
  have nd : (["_law_cable_here", "_law_place", "_law_found", "_law_start", "_law_steps", "_law_drag", "_law_along"] : List Str).Nodup := by decide +kernel
  have h2 := hc.len3
  refine rn_asg (ed_tup2 (ed_zeroF (ed_tup2 ed_int ed_int)) ed_int) (tg_pair rfl (tg_name 2 nd) (tg_name 3 nd)) ?_
  refine rn_for0 (fun i ds => ∃ (found : Rat) (start : Nat) (o1 o2 o3 : Option AV), ds = [some (.d (cabD c bk)), some (.d (fr x)), some (.d (fr found)), some (.d (.int (start : Nat))), o1, o2, o3] ∧ start ≤ 999 * i ∧
    (((start : Rat) ≤ x ∧ dragC c x = found + dragC (c.drop i) (x - (start : Rat)) ∧ Sz (16 * i + 1) found) ∨ (x ≤ (start : Rat) ∧ dragC c x = found ∧ Sz 4090 found))) PassesOwn.never rfl (iw_tup (ed_ixT (ev_v 0) ed_int)) ⟨0, 0, none, none, none, rfl, Nat.le_refl _, .inl ⟨h0, ?_, sz_zero (by decide)⟩⟩ (fun i y ds' hx inv => ?_) fun ds' inv => ?_
  · have e : ((0 : Nat) : Rat) = 0 := rfl
    rw [e]
    have e2 : x - 0 = x := by grind
    show dragC c x = 0 + dragC c (x - 0)
    rw [e2]; grind
  · obtain ⟨l, e1, rfl⟩ := map_at hx
    obtain ⟨found, start, o1, o2, o3, rfl, hst, hcase⟩ := inv
    have hi := (List.getElem?_eq_some_iff.mp e1).1
    have hl := hc.all l (List.mem_of_getElem? e1)
    have hss : Sz 12 (start : Rat) := sz_nat ⟨by omega⟩ ⟨by decide⟩
    have hal : Sz 4013 (x - (start : Rat)) := hz.sub hss
    have hsf' : Sz 4100 found := by rcases hcase with h | h; exact h.2.2.mono (by omega); exact h.2.2.mono (by decide)
    have es : ((start + l.1 : Nat) : Rat) = (start : Rat) + (l.1 : Rat) := Rat.natCast_add _ _
    refine ⟨_, tg_pair rfl (tg_name 4 nd) (tg_name 5 nd), rn_setd 6 (ed_call (d__law_minus T) hr (by decide) (ea_cons (ev_v 1) (ea_cons (ed_natF (ed_tup2 (ev_v 3) ed_int)) ea_nil)) (r__law_minus ?_ ?_)) ?_ nd⟩
    · exact hz.mono (by decide)
    · exact hss.mono (by decide)
    -- the end of a turn: along is known
    have fin : ∀ al : Rat, Sz 4020 al → (al = x - (start : Rat) ∧ ¬ (l.1 : Rat) < al ∨ al = (l.1 : Rat) ∧ (l.1 : Rat) < x - (start : Rat)) → Rn (Bx P w K mg base ["_law_cable_here", "_law_place", "_law_found", "_law_start", "_law_steps", "_law_drag", "_law_along"] "_law_drag_to" (topS 69) f cdv A outer s H E) [] ((forBody ((defBody (topS 69)).drop 1)).drop 2) [some (.d (cabD c bk)), some (.d (fr x)), some (.d (fr found)), some (.d (.int (start : Nat))), some (.d (.int (l.1 : Nat))), some (.d (fr l.2)), some (.d (fr al))]
        (fun O2 ds3 => O2 = [] ∧ ∃ (found : Rat) (start : Nat) (o1 o2 o3 : Option AV), ds3 = [some (.d (cabD c bk)), some (.d (fr x)), some (.d (fr found)), some (.d (.int (start : Nat))), o1, o2, o3] ∧ start ≤ 999 * (i + 1) ∧
          (((start : Rat) ≤ x ∧ dragC c x = found + dragC (c.drop (i + 1)) (x - (start : Rat)) ∧ Sz (16 * (i + 1) + 1) found) ∨ (x ≤ (start : Rat) ∧ dragC c x = found ∧ Sz 4090 found)))
        (fun O' a => O' = [] ∧ ∃ d, a = .d d ∧ d = fr (dragC c x)) := fun al sal hal2 => by
      -- what the drag is behind this turn
      have res : ∀ fd : Rat, (0 < al → fd = found + al * l.2) → (¬ 0 < al → fd = found) → (((start + l.1 : Nat) : Rat) ≤ x ∧ dragC c x = fd + dragC (c.drop (i + 1)) (x - ((start + l.1 : Nat) : Rat)) ∧ Sz (16 * (i + 1) + 1) fd) ∨ (x ≤ ((start + l.1 : Nat) : Rat) ∧ dragC c x = fd ∧ Sz 4090 fd) := fun fd f1 f2 => by
        rw [es]
        have s0 := hl.s0
        rcases hcase with ⟨c1, c2, c4⟩ | ⟨c1, c2, c4⟩
        · rw [drop_cons' e1] at c2
          have c3 : dragC c x = found + (if (l.1 : Rat) < x - (start : Rat) then (l.1 : Rat) * l.2 + dragC (c.drop (i + 1)) (x - (start : Rat) - (l.1 : Rat)) else (x - (start : Rat)) * l.2) := c2
          rcases hal2 with ⟨a1, a2⟩ | ⟨a1, a2⟩
          · rw [← a1, if_neg a2] at c3
            by_cases p : 0 < al
            · refine .inr ⟨by grind, by rw [f1 p]; exact c3, ?_⟩
              rw [f1 p]; exact (c4.add (sal.mul hl.sd)).mono (by omega)
            · have : al = 0 := by grind
              refine .inr ⟨by grind, by rw [f2 p, c3, this]; grind, ?_⟩
              rw [f2 p]; exact c4.mono (by omega)
          · rw [if_pos a2] at c3
            have fe := f1 (by rw [a1]; exact s0)
            refine .inl ⟨by grind, ?_, ?_⟩
            · rw [fe, c3, a1]
              have : x - ((start : Rat) + (l.1 : Rat)) = x - (start : Rat) - (l.1 : Rat) := by grind
              rw [this]; grind
            · rw [fe, a1]; exact (c4.add (hl.sn.mul hl.sd)).mono (by omega)
        · rcases hal2 with ⟨a1, a2⟩ | ⟨a1, a2⟩
          · exact .inr ⟨by grind, by rw [f2 (by grind)]; exact c2, by rw [f2 (by grind)]; exact c4⟩
          · grind
      by_cases p : 0 < al
      · refine rn_ifT (EvT.to (et_gt (ed_ixT (ev_v 6) ed_int) ed_int) (decide_eq_true ((num_pos_iff al).mpr p))) (rn_thru (rn_setd 2 (ed_call (d__law_plus T) hr (by decide) (ea_cons (ev_v 2) (ea_cons (ed_call (d__law_times T) hr (by decide) (ea_cons (ev_v 6) (ea_cons (ev_v 5) ea_nil)) (r__law_times ?_ ?_)) ea_nil)) (r__law_plus ?_ ?_)) (rn_nil ⟨rfl, rfl⟩) nd) (rn_setd 3 (ed_add (ev_v 3) (ev_v 4)) (rn_nil ⟨rfl, found + al * l.2, start + l.1, some (.d (.int (l.1 : Nat))), some (.d (fr l.2)), some (.d (fr al)), ?_, ?_, res _ (fun _ => rfl) (fun z => absurd p z)⟩) nd))
        · exact sal.mono (by decide)
        · exact hl.sd.mono (by decide)
        · exact hsf'.mono (by decide)
        · exact (sal.mul hl.sd).mono (by decide)
        · rw [Int.natCast_add]; rfl
        · have := hl.s2; omega
      · refine rn_ifF (EvT.to (et_gt (ed_ixT (ev_v 6) ed_int) ed_int) (decide_eq_false (fun z => p ((num_pos_iff al).mp z)))) (rn_setd 3 (ed_add (ev_v 3) (ev_v 4)) (rn_nil ⟨rfl, found, start + l.1, some (.d (.int (l.1 : Nat))), some (.d (fr l.2)), some (.d (fr al)), ?_, ?_, res _ (fun z => absurd z p) (fun _ => rfl)⟩) nd)
        · rw [Int.natCast_add]; rfl
        · have := hl.s2; omega
    by_cases hlt : (l.1 : Rat) < x - (start : Rat)
    · refine rn_ifT (EvT.to (et_val (ed_call (d__law_below T) hr (by decide) (ea_cons (ed_natF (ed_tup2 (ev_v 4) ed_int)) (ea_cons (ev_v 6) ea_nil)) (r__law_below ?_ ?_))) (decide_eq_true hlt)) (rn_thru (rn_setd 6 (ed_natF (ed_tup2 (ev_v 4) ed_int)) (rn_nil ⟨rfl, rfl⟩) nd) (fin (l.1 : Rat) (hl.sn.mono (by decide)) (.inr ⟨rfl, hlt⟩)))
      · exact hl.sn.mono (by decide)
      · exact hal.mono (by decide)
    · refine rn_ifF (EvT.to (et_val (ed_call (d__law_below T) hr (by decide) (ea_cons (ed_natF (ed_tup2 (ev_v 4) ed_int)) (ea_cons (ev_v 6) ea_nil)) (r__law_below ?_ ?_))) (decide_eq_false hlt)) (fin (x - (start : Rat)) (hal.mono (by decide)) (.inl ⟨rfl, hlt⟩))
      · exact hl.sn.mono (by decide)
      · exact hal.mono (by decide)
  · obtain ⟨found, start, o1, o2, o3, rfl, hst, hcase⟩ := inv
    rw [List.length_map, List.drop_length] at hcase
    refine rn_ret (ev_v 2) fun a z => ⟨rfl, _, z, ?_⟩
    show fr found = fr (dragC c x)
    rcases hcase with ⟨_, c2, _⟩ | ⟨_, c2, _⟩
    · rw [c2]
      show _ = fr (found + 0)
      rw [show found + 0 = found by grind]
    · rw [c2]
theorem d__law_place_at (T : Tx K mg) : Df P w K mg base 3 "_law_place_at" (Rat2 (fun c x => fr (placeC c x))) := df_mk (N := ["_law_cable_here", "_law_drag", "_law_start", "_law_steps", "_law_each", "_law_whole"]) (ps := ["_law_cable_here", "_law_drag"]) T.f__law_place_at ⟨rfl, rfl, rfl, by decide +kernel, rfl, by decide +kernel, by decide +kernel⟩ (fun _ _ _ _ _ _ us hl => match us, hl with | [_, _], _ => rfl) (fun O as B h => by obtain ⟨c, bk, x, _, rfl, _⟩ := h; rfl) fun f cdv A outer s H E hr O as B h => by
  obtain ⟨c, bk, x, rfl, rfl, hc, hz, rfl⟩ := h
  have nd : (["_law_cable_here", "_law_drag", "_law_start", "_law_steps", "_law_each", "_law_whole"] : List Str).Nodup := by decide +kernel
  have h2 := hc.len3
  refine rn_setd 2 ed_int ?_ nd
  refine rn_for0 (fun i ds => ∃ (here : Nat) (left : Rat) (o1 o2 o3 : Option AV), ds = [some (.d (cabD c bk)), some (.d (fr left)), some (.d (.int (here : Nat))), o1, o2, o3] ∧ placeC c x = (here : Rat) + placeC (c.drop i) left ∧ Sz (4000 + 16 * i) left ∧ here ≤ 999 * i) PassesOwn.never rfl (iw_tup (ed_ixT (ev_v 0) ed_int)) ⟨0, x, none, none, none, rfl, ?_, hz, Nat.le_refl _⟩ (fun i y ds' hx inv => ?_) fun ds' inv => ?_
  · show placeC c x = ((0 : Nat) : Rat) + placeC c x
    have : ((0 : Nat) : Rat) = 0 := rfl
    rw [this]; grind
  · obtain ⟨l, e1, rfl⟩ := map_at hx
    obtain ⟨here, left, o1, o2, o3, rfl, he, hs, hh⟩ := inv
    have hi := (List.getElem?_eq_some_iff.mp e1).1
    have hl := hc.all l (List.mem_of_getElem? e1)
    have hs' : Sz 4050 left := hs.mono (by omega)
    have hh' : Sz 12 (here : Rat) := sz_nat ⟨by omega⟩ ⟨by decide⟩
    rw [drop_cons' e1] at he
    refine ⟨_, tg_pair rfl (tg_name 3 nd) (tg_name 4 nd), rn_setd 5 (ed_call (d__law_times T) hr (by decide) (ea_cons (ed_natF (ed_tup2 (ev_v 3) ed_int)) (ea_cons (ev_v 4) ea_nil)) (r__law_times ?_ ?_)) ?_ nd⟩
    · exact hl.sn.mono (by decide)
    · exact hl.sd.mono (by decide)
    by_cases hlt : (l.1 : Rat) * l.2 < left
    · refine rn_ifF (EvT.to (et_not (et_val (ed_call (d__law_below T) hr (by decide) (ea_cons (ev_v 5) (ea_cons (ev_v 1) ea_nil)) (r__law_below ?_ ?_)))) (by rw [decide_eq_true hlt]; rfl)) (rn_setd 1 (ed_call (d__law_minus T) hr (by decide) (ea_cons (ev_v 1) (ea_cons (ev_v 5) ea_nil)) (r__law_minus ?_ ?_)) (rn_setd 2 (ed_add (ev_v 2) (ev_v 3)) (rn_nil ⟨rfl, here + l.1, left - (l.1 : Rat) * l.2, some (.d (.int (l.1 : Nat))), some (.d (fr l.2)), some (.d (fr ((l.1 : Rat) * l.2))), ?_, ?_, ?_, ?_⟩) nd) nd)
      · exact (hl.sn.mul hl.sd).mono (by decide)
      · exact hs'.mono (by decide)
      · exact hs'.mono (by decide)
      · exact (hl.sn.mul hl.sd).mono (by decide)
      · rw [Int.natCast_add]; rfl
      · rw [he]
        show _ + (if (l.1 : Rat) * l.2 < left then _ else _) = _
        rw [if_pos hlt, Rat.natCast_add]; grind
      · exact (hs.sub (hl.sn.mul hl.sd)).mono (by omega)
      · have := hl.s2; omega
    · refine rn_ifRT (EvT.to (et_not (et_val (ed_call (d__law_below T) hr (by decide) (ea_cons (ev_v 5) (ea_cons (ev_v 1) ea_nil)) (r__law_below ?_ ?_)))) (by rw [decide_eq_false hlt]; rfl)) (rn_ret (ed_call (d__law_plus T) hr (by decide) (ea_cons (ed_natF (ed_tup2 (ev_v 2) ed_int)) (ea_cons (ed_call (d__law_over T) hr (by decide) (ea_cons (ev_v 1) (ea_cons (ev_v 4) ea_nil)) (r__law_over ?_ ?_ ?_)) ea_nil)) (r__law_plus ?_ ?_)) fun a z => ⟨rfl, _, z, ?_⟩)
      · exact (hl.sn.mul hl.sd).mono (by decide)
      · exact hs'.mono (by decide)
      · exact hs'.mono (by decide)
      · exact hl.sd.mono (by decide)
      · exact hl.d0
      · exact hh'.mono (by decide)
      · exact (hs'.div hl.sd hl.d0).mono (by decide)
      · show fr ((here : Rat) + left / l.2) = fr (placeC c x)
        rw [he]
        show _ = fr (_ + (if (l.1 : Rat) * l.2 < left then _ else _))
        rw [if_neg hlt]
  · obtain ⟨here, left, o1, o2, o3, rfl, he, hs, hh⟩ := inv
    rw [List.length_map, List.drop_length] at he
    refine rn_ret (ed_natF (ed_tup2 (ev_v 2) ed_int)) fun a z => ⟨rfl, _, z, ?_⟩
    show fr (here : Rat) = fr (placeC c x)
    rw [he]
    show _ = fr (_ + 0)
    rw [show (here : Rat) + 0 = (here : Rat) by grind]
end
end Ea

namespace Ea
open PySem PySem.Spec PyProof.Rows L2
/-! ### the law's own walk of leaks -/
abbrev lkD (l : Rat × Rat) : PyData := .tuple [fr l.1, fr l.2]
abbrev lksT (ls : List (Rat × Rat)) : PyData := .tuple (ls.map lkD)
abbrev lksL (ls : List (Rat × Rat)) : PyData := .list (ls.map lkD)
def ptsW (c : List Ln) (ls : List (Rat × Rat)) : List (Rat × Rat) := ls.map fun l => (dragC c l.1, l.2)
def ptsE (c : List Ln) (ls : List (Rat × Rat)) : List (Rat × Rat) := (ptsW c ls).reverse.map fun p => (wholeC c - p.1, p.2)
def stepV (e : Option Rat) (here at_ g : Rat) : Rat := match e with
  | none => g
  | some q => par g (q + (here - at_))
def seenV (W : Rat) (e : Option Rat) : List (Rat × Rat) → Rat
  | [p] => p.1 + stepV e W p.1 p.2
  | [p, q] => p.1 + stepV (some (stepV e W q.1 q.2)) q.1 p.1 p.2
  | _ => 0
def endW (w : W4) : Option Rat := if w.free then none else some 0
def rdL (c : List Ln) (w : W4) (ls : List (Rat × Rat)) : Rat := seenV (wholeC c) (endW w) (if !w.east then ptsW c ls else ptsE c ls)
structure LkOk (c : List Ln) (l : Rat × Rat) : Prop where
  x0 : 0 ≤ l.1
  sx : Sz 4000 l.1
  sn : Sz 100 (dragC c l.1)
  sg : Sz 1000 l.2
  g0 : 0 < l.2
def Rpoints : RF := fun O as B => ∃ c bk ls b, O = [] ∧ as = [.d (cabD c bk), .d (lksT ls), .d (.bool b)] ∧ GoodC c bk ∧ ls.length ≤ 6 ∧ (∀ l ∈ ls, LkOk c l) ∧ B = (· = lksL (if b then ptsW c ls else ptsE c ls))
theorem r__law_points {c : List Ln} {bk : Rat} {ls : List (Rat × Rat)} {b : Bool} (hc : GoodC c bk) (hl : ls.length ≤ 6) (h : ∀ l ∈ ls, LkOk c l) : Rpoints [] [.d (cabD c bk), .d (lksT ls), .d (.bool b)] (· = lksL (if b then ptsW c ls else ptsE c ls)) := ⟨c, bk, ls, b, rfl, rfl, hc, hl, h, rfl⟩
theorem ed_lc_to {X : Cx} {O : OS} {ds : AS} {e : Expr} {ys : List PyData} (h : Ed X O e ds (.list ys)) : Ed X O e ds (.list ys) := h
section
variable {P : Program} {w : World} {K : PySem.W.Frag} {mg : Str → Option Value} {base : Heap}
theorem d__law_points (T : Tx K mg) : Df P w K mg base 4 "_law_points" Rpoints := df_mk (N := ["_law_cable_here", "_law_leaks_here", "_law_west", "_law_some", "_law_place", "_law_drag", "_law_at"]) (ps := ["_law_cable_here", "_law_leaks_here", "_law_west"]) T.f__law_points ⟨rfl, rfl, rfl, by decide +kernel, rfl, by decide +kernel, by decide +kernel⟩ (fun _ _ _ _ _ _ us hl => match us, hl with | [_, _, _], _ => rfl) (fun O as B h => by obtain ⟨_, _, _, _, _, rfl, _⟩ := h; rfl) fun f cdv A outer s H E hr O as B h => by
  obtain ⟨c, bk, ls, b, rfl, rfl, hc, hl, hls, rfl⟩ := h
  have nd : (["_law_cable_here", "_law_leaks_here", "_law_west", "_law_some", "_law_place", "_law_drag", "_law_at"] : List Str).Nodup := by decide +kernel
  refine rn_setLc (hsw := sw_true rfl rfl rfl (by decide +kernel)) (own := [("_law_place", 4), ("_law_drag", 5)]) (ys := (ptsW c ls).map lkD) 3 rfl nd (iw_tup (ev_v 1)) (fun _ h => (nomatch h)) (blkOk_by (N := ["_law_cable_here", "_law_leaks_here", "_law_west", "_law_some", "_law_place", "_law_drag", "_law_at"]) (sc := defScope (topS 71)) (by decide +kernel)) (tb_pair 4 5 (fun _ _ _ _ _ => pg_tup rfl (pgs_cons (pg_name (i := 4) nd rfl (Or.inl rfl)) (pgs_cons (pg_name (i := 5) nd rfl (Or.inl rfl)) pgs_nil)))) ?_ ?_ ?_ (fun ci cx cy hcx hcy _ _ _ _ _ => ?_) ?_
  · intro x hx
    obtain ⟨l, _, rfl⟩ := List.mem_map.mp hx
    exact ⟨_, _, rfl⟩
  · unfold ptsW; rw [List.length_map, List.length_map, List.length_map]
  · rw [List.length_map]; omega
  · obtain ⟨l, e1, rfl⟩ := map_at hcx
    unfold ptsW at hcy
    rw [List.map_map] at hcy
    obtain ⟨l2, e2, rfl⟩ := map_at hcy
    rw [e1] at e2
    cases e2
    have hk := hls l (List.mem_of_getElem? e1)
    refine (ed_tup2 (ed_call (d__law_drag_to T) hr (by decide) (ea_cons (ev_v 0) (ea_cons (ev_v 4) ea_nil)) (r__law_drag_to ?_ ?_ ?_)) (ev_v 5))
    · exact hc
    · exact hk.sx
    · exact hk.x0
  refine rn_ifR (et_val (ev_v 2)) (fun hk => ?_) fun hk => ?_
  · subst hk
    exact rn_ret (ev_v 3) fun a z => ⟨rfl, _, z, rfl⟩
  · subst hk
    refine rn_ret (he := (ed_lc_to (ys := (ptsE c ls).map lkD) (ed_lc (own := [("_law_at", 6), ("_law_drag", 5)]) rfl nd (iw_list (ed_rev (ev_v 3))) (fun _ h => (nomatch h)) (blkOk_by (N := ["_law_cable_here", "_law_leaks_here", "_law_west", "_law_some", "_law_place", "_law_drag", "_law_at"]) (sc := defScope (topS 71)) (by decide +kernel)) (tb_pair 6 5 (fun _ _ _ _ _ => pg_tup rfl (pgs_cons (pg_name (i := 6) nd rfl (Or.inl rfl)) (pgs_cons (pg_name (i := 5) nd rfl (Or.inl rfl)) pgs_nil)))) ?_ ?_ ?_ (fun ci cx cy hcx hcy _ _ _ _ _ => ?_)))) fun a z => ⟨rfl, _, z, rfl⟩
    · intro x hx
      obtain ⟨l, _, rfl⟩ := List.mem_map.mp (List.mem_reverse.mp hx)
      exact ⟨_, _, rfl⟩
    · unfold ptsE; rw [List.length_map, List.length_map, List.length_reverse, List.length_reverse, List.length_map]
    · unfold ptsW; rw [List.length_reverse, List.length_map, List.length_map]; omega
    · rw [← List.map_reverse] at hcx
      unfold ptsE at hcy
      rw [List.map_map] at hcy
      obtain ⟨q, e1, rfl⟩ := map_at hcx
      obtain ⟨q2, e2, rfl⟩ := map_at hcy
      rw [e1] at e2
      cases e2
      have hq : q ∈ ptsW c ls := List.mem_reverse.mp (List.mem_of_getElem? e1)
      obtain ⟨l, hlm, rfl⟩ := List.mem_map.mp hq
      have hk := hls l hlm
      refine (ed_tup2 (ed_call (d__law_minus T) hr (by decide) (ea_cons (ed_call (d__law_all T) hr (by decide) (ea_cons (ev_v 0) ea_nil) (r__law_all ?_)) (ea_cons (ev_v 6) ea_nil)) (r__law_minus ?_ ?_)) (ev_v 5))
      · exact hc
      · exact hc.szW.mono (by decide)
      · exact hk.sn.mono (by decide)
end
end Ea

namespace Ea
open PySem PySem.Spec PyProof.Rows L2
/-! ### the law's own walk of leaks: what is seen -/
theorem ed_to {X : Cx} {O : OS} {ds : AS} {e : Expr} {x y : PyData} (h : Ed X O e ds x) (q : x = y) : Ed X O e ds y := q ▸ h
def stepsV : Option Rat → Rat → List (Rat × Rat) → List Rat
  | _, _, [] => []
  | e, h, p :: ps => stepV e h p.1 p.2 :: stepsV (some (stepV e h p.1 p.2)) p.1 ps
structure PtsOk (W : Rat) (ps : List (Rat × Rat)) : Prop where
  len : ps.length ≤ 2
  ord : ps.Pairwise fun p q => p.1 ≤ q.1
  sx : ∀ p ∈ ps, Sz 200 p.1
  sg : ∀ p ∈ ps, Sz 1000 p.2
  g0 : ∀ p ∈ ps, 0 < p.2
  le : ∀ p ∈ ps, p.1 ≤ W
  sW : Sz 200 W
theorem step_ok {e : Option Rat} {h a g : Rat} {m : Nat} (he : ∀ q, e = some q → 0 ≤ q ∧ Sz m q) (sh : Sz 200 h) (sa : Sz 200 a) (sg : Sz 1000 g) (g0 : 0 < g) (hl : a ≤ h) : 0 ≤ stepV e h a g ∧ Sz (m + 1403) (stepV e h a g) := by
  cases e with
  | none => exact ⟨Rat.le_of_lt g0, sg.mono (by omega)⟩
  | some q =>
    obtain ⟨q0, sq⟩ := he q rfl
    have r0 : 0 ≤ q + (h - a) := by grind
    exact ⟨par_nn g0 r0, (sg.par (sq.add (sh.sub sa)) (by grind)).mono (by omega)⟩
def Rsteps : RF := fun O as B => ∃ W e ps, O = [] ∧ as = [.d (lksL ps), .d (fr W), .d (optF e)] ∧ PtsOk W ps ∧ (∀ q, e = some q → 0 ≤ q ∧ Sz 1 q) ∧ B = (· = lstF (stepsV e W ps.reverse).reverse)
theorem r__law_steps_seen {W : Rat} {e : Option Rat} {ps : List (Rat × Rat)} (h : PtsOk W ps) (he : ∀ q, e = some q → 0 ≤ q ∧ Sz 1 q) : Rsteps [] [.d (lksL ps), .d (fr W), .d (optF e)] (· = lstF (stepsV e W ps.reverse).reverse) := ⟨W, e, ps, rfl, rfl, h, he, rfl⟩
section
variable {P : Program} {w : World} {K : PySem.W.Frag} {mg : Str → Option Value} {base : Heap}
theorem d__law_steps_seen (T : Tx K mg) : Df P w K mg base 3 "_law_steps_seen" Rsteps := df_mk2 (N := ["_law_points_here", "_law_far", "_law_end", "_law_found", "_law_here", "_law_at", "_law_drag", "_law_rest"]) (ps := ["_law_points_here", "_law_far", "_law_end"]) T.f__law_steps_seen ⟨rfl, rfl, rfl, by decide +kernel, rfl, by decide +kernel, by decide +kernel⟩ (fun _ _ _ _ _ _ us hl => match us, hl with | [_, _, _], _ => rfl) (fun O as B h => by obtain ⟨_, _, _, _, rfl, _⟩ := h; rfl) fun f cdv A outer s H E hr O as B h => by
  obtain ⟨W, e, ps, rfl, rfl, hp, he, rfl⟩ := h
  have nd : (["_law_points_here", "_law_far", "_law_end", "_law_found", "_law_here", "_law_at", "_law_drag", "_law_rest"] : List Str).Nodup := by decide +kernel
  have hrl : ps.reverse.length ≤ 2 := by rw [List.length_reverse]; exact hp.len
  have hro : ps.reverse.Pairwise (fun p q => q.1 ≤ p.1) := List.pairwise_reverse.mpr hp.ord
  have hrm : ∀ p ∈ ps.reverse, p ∈ ps := fun p h => List.mem_reverse.mp h
  refine rn_parOwn 3 4 (fun p => (ev_v 1)) (fun p => ?_) rfl nd
  refine rn_for (xs := ps.reverse.map lkD) (fun i O' ds => ∃ (e' : Option Rat) (h' : Rat) (fnd : List Rat) (o5 o6 o7 : Option AV), O' = [(p, .li (fnd.map fr))] ∧ ds = [some (.d (lksL ps)), some (.d (fr W)), some (.d (optF e')), some (.own p), some (.d (fr h')), o5, o6, o7]
      ∧ stepsV e W ps.reverse = fnd ++ stepsV e' h' (ps.reverse.drop i) ∧ fnd.length = i ∧ (∀ q ∈ ps.reverse.drop i, q.1 ≤ h') ∧ Sz 200 h' ∧ (i = 0 → ∀ q, e' = some q → 0 ≤ q ∧ Sz 1 q) ∧ (i = 1 → ∀ q, e' = some q → 0 ≤ q ∧ Sz 1500 q))
    PassesOwn.never rfl (iw_list (ed_to (ed_rev (ev_v 0)) (by rw [← List.map_reverse]))) ⟨e, W, [], none, none, none, rfl, rfl, rfl, rfl, fun q hq => hp.le q (hrm q hq), hp.sW, fun _ => he, fun z => nomatch z⟩ (fun i y O' ds' hy hO inv => ?_) fun O' ds' hO inv => ?_
  · obtain ⟨l, e1, rfl⟩ := map_at hy
    obtain ⟨e', h', fnd, o5, o6, o7, rfl, rfl, hv, hf, hle, sh, hz0, hz1⟩ := inv
    have hi := (List.getElem?_eq_some_iff.mp e1).1
    have hm := hrm l (List.mem_of_getElem? e1)
    have hdr : ps.reverse.drop i = l :: ps.reverse.drop (i + 1) := by
      rw [List.drop_eq_getElem_cons hi, (List.getElem?_eq_some_iff.mp e1).2]
    rw [hdr] at hv hle
    have hl := hle l List.mem_cons_self
    have hnx : ∀ q ∈ ps.reverse.drop (i + 1), q.1 ≤ l.1 := by
      have := hro.drop (i := i)
      rw [hdr] at this
      exact (List.pairwise_cons.mp this).1
    have h15 : ∀ q, e' = some q → 0 ≤ q ∧ Sz 1500 q := by
      rcases (show i = 0 ∨ i = 1 by omega) with z | z
      · exact fun q hq => ⟨(hz0 z q hq).1, (hz0 z q hq).2.mono (by decide)⟩
      · exact hz1 z
    have nx1 : i + 1 = 1 → ∀ q, some (stepV e' h' l.1 l.2) = some q → 0 ≤ q ∧ Sz 1500 q := fun z q hq => by
      cases hq
      have := step_ok (hz0 (by omega)) sh (hp.sx l hm) (hp.sg l hm) (hp.g0 l hm) hl
      exact ⟨this.1, this.2.mono (by decide)⟩
    have hv2 : stepsV e W ps.reverse = (fnd ++ [stepV e' h' l.1 l.2]) ++ stepsV (some (stepV e' h' l.1 l.2)) l.1 (ps.reverse.drop (i + 1)) := by rw [hv, List.append_assoc]; rfl
    refine ⟨_, tg_pair rfl (tg_name 5 nd) (tg_name 6 nd), ?_⟩
    have hlen : (fnd.map fr).length ≤ 1000 := by rw [List.length_map]; omega
    cases e' with
    | none =>
      refine rn_ifE (EvT.to (et_notN (ev_v 2)) (by rfl)) (rn_setd 2 (ev_v 6) (rn_nil ⟨fun _ h => h, ?_⟩) nd)
      refine rn_append (ev_v 3) (ev_v 2) hlen fun a ha => ⟨_, ha, rn_setd 4 (ev_v 5) (rn_nil ⟨rfl, some (stepV none h' l.1 l.2), l.1, fnd ++ [stepV none h' l.1 l.2], _, _, _, ?_, rfl, hv2, ?_, hnx, hp.sx l hm, fun z => absurd z (Nat.succ_ne_zero i), nx1⟩) nd⟩
      · rw [List.map_append]; rfl
      · rw [List.length_append, hf]; rfl
    | some q =>
      obtain ⟨q0, sq⟩ := h15 q rfl
      have r0 : 0 ≤ q + (h' - l.1) := by grind
      have g0 := hp.g0 l hm
      have sr := sq.add (sh.sub (hp.sx l hm))
      refine rn_ifT (EvT.to (et_notN (ev_v 2)) (by rfl)) (rn_setd 7 (ed_call (d__law_plus T) hr (by decide) (ea_cons (ev_v 2) (ea_cons (ed_call (d__law_minus T) hr (by decide) (ea_cons (ev_v 4) (ea_cons (ev_v 5) ea_nil)) (r__law_minus ?_ ?_)) ea_nil)) (r__law_plus ?_ ?_)) (rn_setd 2 (ed_call (d__law_over T) hr (by decide) (ea_cons (ed_call (d__law_times T) hr (by decide) (ea_cons (ev_v 6) (ea_cons (ev_v 7) ea_nil)) (r__law_times ?_ ?_)) (ea_cons (ed_call (d__law_plus T) hr (by decide) (ea_cons (ev_v 6) (ea_cons (ev_v 7) ea_nil)) (r__law_plus ?_ ?_)) ea_nil)) (r__law_over ?_ ?_ ?_)) (rn_nil ⟨fun _ h => h, ?_⟩) nd) nd)
      · exact sh.mono (by decide)
      · exact (hp.sx l hm).mono (by decide)
      · exact sq.mono (by decide)
      · exact (sh.sub (hp.sx l hm)).mono (by decide)
      · exact (hp.sg l hm).mono (by decide)
      · exact sr.mono (by decide)
      · exact (hp.sg l hm).mono (by decide)
      · exact sr.mono (by decide)
      · exact ((hp.sg l hm).mul sr).mono (by decide)
      · exact (Sz.add (hp.sg l hm) sr).mono (by decide)
      · grind
      refine rn_append (ev_v 3) (ev_v 2) hlen fun a ha => ⟨_, ha, rn_setd 4 (ev_v 5) (rn_nil ⟨rfl, some (stepV (some q) h' l.1 l.2), l.1, fnd ++ [stepV (some q) h' l.1 l.2], _, _, _, ?_, rfl, hv2, ?_, hnx, hp.sx l hm, fun z => absurd z (Nat.succ_ne_zero i), nx1⟩) nd⟩
      · rw [List.map_append]; rfl
      · rw [List.length_append, hf]; rfl
  · obtain ⟨e', h', fnd, o5, o6, o7, rfl, rfl, hv, hf, hle, sh, hz0, hz1⟩ := inv
    rw [List.length_map, List.drop_length] at hv
    have hv3 : stepsV e W ps.reverse = fnd := by rw [hv]; exact List.append_nil _
    refine rn_freeze 3 rfl (rn_ret (he := ed_rev (xs := fnd.map fr) (ev_v 3)) fun a z => ⟨fun _ h => (nomatch h), _, z, ?_⟩)
    show PyData.list _ = PyData.list _
    rw [List.map_reverse, hv3]
/-! what is seen -/
def Rseen : RF := fun O as B => ∃ c bk ls b e, O = [] ∧ as = [.d (cabD c bk), .d (lksT ls), .d (.bool b), .d (optF e)] ∧ GoodC c bk ∧ ls.length ≤ 2 ∧ ls ≠ [] ∧ (∀ l ∈ ls, LkOk c l) ∧ (ls.Pairwise fun p q => p.1 ≤ q.1) ∧ (∀ q, e = some q → 0 ≤ q ∧ Sz 1 q) ∧ B = (· = fr (seenV (wholeC c) e (if b then ptsW c ls else ptsE c ls)))
theorem r__law_seen {c : List Ln} {bk : Rat} {ls : List (Rat × Rat)} {b : Bool} {e : Option Rat} (hc : GoodC c bk) (h1 : ls.length ≤ 2) (h2 : ls ≠ []) (h3 : ∀ l ∈ ls, LkOk c l) (h4 : ls.Pairwise fun p q => p.1 ≤ q.1) (h5 : ∀ q, e = some q → 0 ≤ q ∧ Sz 1 q) :
    Rseen [] [.d (cabD c bk), .d (lksT ls), .d (.bool b), .d (optF e)] (· = fr (seenV (wholeC c) e (if b then ptsW c ls else ptsE c ls))) := ⟨c, bk, ls, b, e, rfl, rfl, hc, h1, h2, h3, h4, h5, rfl⟩
theorem pts_ok {c : List Ln} {bk : Rat} {ls : List (Rat × Rat)} (b : Bool) (hc : GoodC c bk) (h1 : ls.length ≤ 2) (h3 : ∀ l ∈ ls, LkOk c l) (h4 : ls.Pairwise fun p q => p.1 ≤ q.1) : PtsOk (wholeC c) (if b then ptsW c ls else ptsE c ls) := by
  have sW := hc.szW
  have ow : (ptsW c ls).Pairwise fun p q => p.1 ≤ q.1 := by
    unfold ptsW
    refine List.pairwise_map.mpr ?_
    refine h4.imp_of_mem fun {p q} hp hq hpq => ?_
    exact dragC_mono c p.1 q.1 hc.all (h3 p hp).x0 hpq
  cases b with
  | true =>
    refine ⟨by rw [if_pos rfl]; unfold ptsW; rw [List.length_map]; exact h1, ow, fun p hp => ?_, fun p hp => ?_, fun p hp => ?_, fun p hp => ?_, sW.mono (by decide)⟩
    all_goals
      obtain ⟨l, hl, rfl⟩ := List.mem_map.mp (show p ∈ ptsW c ls from hp)
      have hk := h3 l hl
    · exact hk.sn.mono (by decide)
    · exact hk.sg
    · exact hk.g0
    · exact (dragC_bd c l.1 hc.all hk.x0).2
  | false =>
    have hm : ∀ p ∈ ptsE c ls, ∃ l ∈ ls, p = (wholeC c - dragC c l.1, l.2) := fun p hp => by
      obtain ⟨q, hq, rfl⟩ := List.mem_map.mp hp
      obtain ⟨l, hl, rfl⟩ := List.mem_map.mp (List.mem_reverse.mp hq)
      exact ⟨l, hl, rfl⟩
    refine ⟨?_, ?_, fun p hp => ?_, fun p hp => ?_, fun p hp => ?_, fun p hp => ?_, sW.mono (by decide)⟩
    · show (ptsE c ls).length ≤ 2
      unfold ptsE ptsW; rw [List.length_map, List.length_reverse, List.length_map]; exact h1
    · show (ptsE c ls).Pairwise _
      unfold ptsE
      refine List.pairwise_map.mpr (List.pairwise_reverse.mpr (ow.imp fun {p q} hpq => ?_))
      show wholeC c - q.1 ≤ wholeC c - p.1
      grind
    all_goals
      obtain ⟨l, hl, rfl⟩ := hm p hp
      have hk := h3 l hl
    · exact (sW.sub hk.sn).mono (by decide)
    · exact hk.sg
    · exact hk.g0
    · have := (dragC_bd c l.1 hc.all hk.x0).1
      show wholeC c - dragC c l.1 ≤ wholeC c
      grind
theorem lks_eqv (p : Rat × Rat) (ps : List (Rat × Rat)) : PyData.eqv (lksL (p :: ps)) (.list []) = false := by simp [PyData.eqv, PyData.eqvAll]
theorem lks_shaped {ps : List (Rat × Rat)} (h : ps.length ≤ 2) : SeqAt.shaped (lksL ps) = true := by
  match ps, h with
  | [], _ => decide +kernel
  | [p], _ =>
    show ((lksL [p]).canLay0 && decide ((lksL [p]).depth ≤ 64)) = true
    have h1 : (lksL [p]).canLay0 = true := by simp [PyData.canLay0, PyData.canLayAll0]
    have h2 : (lksL [p]).depth ≤ 64 := by simp [PyData.depth, PyData.depthAll]
    rw [h1, decide_eq_true h2]; rfl
  | [p, q], _ =>
    show ((lksL [p, q]).canLay0 && decide ((lksL [p, q]).depth ≤ 64)) = true
    have h1 : (lksL [p, q]).canLay0 = true := by simp [PyData.canLay0, PyData.canLayAll0]
    have h2 : (lksL [p, q]).depth ≤ 64 := by simp [PyData.depth, PyData.depthAll]
    rw [h1, decide_eq_true h2]; rfl
theorem d__law_seen (T : Tx K mg) : Df P w K mg base 5 "_law_seen" Rseen := df_mk (N := ["_law_cable_here", "_law_leaks_here", "_law_west", "_law_end", "_law_points_here", "_law_far"]) (ps := ["_law_cable_here", "_law_leaks_here", "_law_west", "_law_end"]) T.f__law_seen ⟨rfl, rfl, rfl, by decide +kernel, rfl, by decide +kernel, by decide +kernel⟩ (fun _ _ _ _ _ _ us hl => match us, hl with | [_, _, _, _], _ => rfl) (fun O as B h => by obtain ⟨_, _, _, _, _, _, rfl, _⟩ := h; rfl) fun f cdv A outer s H E hr O as B h => by
  obtain ⟨c, bk, ls, b, e, rfl, rfl, hc, h1, h2, h3, h4, h5, rfl⟩ := h
  have nd : (["_law_cable_here", "_law_leaks_here", "_law_west", "_law_end", "_law_points_here", "_law_far"] : List Str).Nodup := by decide +kernel
  have hp := pts_ok b hc h1 h3 h4
  refine rn_par 4 5 (ea_cons (ed_call (d__law_points T) hr (by decide) (ea_cons (ev_v 0) (ea_cons (ev_v 1) (ea_cons (ev_v 2) ea_nil))) (r__law_points ?_ ?_ ?_)) (ea_cons (ed_call (d__law_all T) hr (by decide) (ea_cons (ev_v 0) ea_nil) (r__law_all ?_)) ea_nil)) ?_ rfl nd
  · exact hc
  · omega
  · exact h3
  · exact hc
  have hne : (if b then ptsW c ls else ptsE c ls) ≠ [] := fun z => h2 (by
    have z2 := congrArg List.length z
    refine List.eq_nil_of_length_eq_zero ?_
    cases b
    · have : (ptsE c ls).length = 0 := z2
      unfold ptsE ptsW at this
      rw [List.length_map, List.length_reverse, List.length_map] at this
      exact this
    · have : (ptsW c ls).length = 0 := z2
      unfold ptsW at this
      rw [List.length_map] at this
      exact this)
  generalize (if b then ptsW c ls else ptsE c ls) = ps at hp hne ⊢
  have hsh := lks_shaped hp.len
  obtain ⟨p, pt, rfl⟩ := List.exists_cons_of_ne_nil hne
  have k1 := lks_eqv p pt
  refine rn_ifF (EvT.to (et_w (ew_and (et_eq hr (ev_v 4) ed_lst0 ?_ ?_) fun _ => (ew_and1 (et_isN (ev_v 3))))) (by rw [k1]; rfl)) (rn_ifF (EvT.to (et_eq hr (ev_v 4) ed_lst0 ?_ ?_) k1) ?_)
  · exact hsh
  · decide +kernel
  · exact hsh
  · decide +kernel
  have sW := hp.sW
  match pt, hp with
  | [], hp =>
    have m1 : p ∈ [p] := List.mem_cons_self
    have so := step_ok h5 sW (hp.sx p m1) (hp.sg p m1) (hp.g0 p m1) (hp.le p m1)
    refine rn_ret (ed_call (d__law_plus T) hr (by decide) (ea_cons (ed_ixT (ed_ixL (ev_v 4) ed_int) ed_int) (ea_cons (ed_ixL (ed_call (d__law_steps_seen T) hr (by decide) (ea_cons (ev_v 4) (ea_cons (ev_v 5) (ea_cons (ev_v 3) ea_nil))) (r__law_steps_seen ?_ ?_)) ed_int) ea_nil)) (r__law_plus ?_ ?_)) fun a z => ⟨rfl, _, z, rfl⟩
    · exact hp
    · exact h5
    · exact (hp.sx p m1).mono (by decide)
    · exact so.2.mono (by decide)
  | [q], hp =>
    have m1 : p ∈ [p, q] := List.mem_cons_self
    have m2 : q ∈ [p, q] := List.mem_cons_of_mem _ List.mem_cons_self
    have so := step_ok h5 sW (hp.sx q m2) (hp.sg q m2) (hp.g0 q m2) (hp.le q m2)
    have so2 := step_ok (e := some (stepV e (wholeC c) q.1 q.2)) (m := 1404) (fun z hz => by cases hz; exact so) (hp.sx q m2) (hp.sx p m1) (hp.sg p m1) (hp.g0 p m1) ((List.pairwise_cons.mp hp.ord).1 q List.mem_cons_self)
    refine rn_ret (ed_call (d__law_plus T) hr (by decide) (ea_cons (ed_ixT (ed_ixL (ev_v 4) ed_int) ed_int) (ea_cons (ed_ixL (ed_call (d__law_steps_seen T) hr (by decide) (ea_cons (ev_v 4) (ea_cons (ev_v 5) (ea_cons (ev_v 3) ea_nil))) (r__law_steps_seen ?_ ?_)) ed_int) ea_nil)) (r__law_plus ?_ ?_)) fun a z => ⟨rfl, _, z, rfl⟩
    · exact hp
    · exact h5
    · exact (hp.sx p m1).mono (by decide)
    · exact so2.2.mono (by decide)
  | _ :: _ :: _, hp =>
    have := hp.len
    simp at this
/-! what a word reads -/
theorem wn_end (w : W4) : decide (cutS (wn w) (some 5) none = ("earth" : Str)) = !w.free := by cases w <;> decide +kernel
theorem wn_west (w : W4) : decide (cutS (wn w) none (some 4) = ("west" : Str)) = !w.east := by cases w <;> decide +kernel
theorem wn_len (w : W4) : (wn w).length ≤ 1000 := by cases w <;> decide +kernel
theorem end_ok (w : W4) : ∀ q, endW w = some q → 0 ≤ q ∧ Sz 1 q := fun q hq => by
  unfold endW at hq
  split at hq
  · cases hq
  · cases hq; exact ⟨Rat.le_refl, sz_zero (by decide)⟩
def Rlread : RF := fun O as B => ∃ c bk ls w, O = [] ∧ as = [.d (cabD c bk), .d (lksT ls), .d (.str (wn w))] ∧ GoodC c bk ∧ ls.length ≤ 2 ∧ ls ≠ [] ∧ (∀ l ∈ ls, LkOk c l) ∧ (ls.Pairwise fun p q => p.1 ≤ q.1) ∧ B = (· = fr (rdL c w ls))
theorem r__law_read {c : List Ln} {bk : Rat} {ls : List (Rat × Rat)} {w : W4} (hc : GoodC c bk) (h1 : ls.length ≤ 2) (h2 : ls ≠ []) (h3 : ∀ l ∈ ls, LkOk c l) (h4 : ls.Pairwise fun p q => p.1 ≤ q.1) :
    Rlread [] [.d (cabD c bk), .d (lksT ls), .d (.str (wn w))] (· = fr (rdL c w ls)) := ⟨c, bk, ls, w, rfl, rfl, hc, h1, h2, h3, h4, rfl⟩
theorem d__law_read (T : Tx K mg) : Df P w K mg base 6 "_law_read" Rlread := df_mk (N := ["_law_cable_here", "_law_leaks_here", "_law_word", "_law_end"]) (ps := ["_law_cable_here", "_law_leaks_here", "_law_word"]) T.f__law_read ⟨rfl, rfl, rfl, by decide +kernel, rfl, by decide +kernel, by decide +kernel⟩ (fun _ _ _ _ _ _ us hl => match us, hl with | [_, _, _], _ => rfl) (fun O as B h => by obtain ⟨_, _, _, _, _, rfl, _⟩ := h; rfl) fun f cdv A outer s H E hr O as B h => by
  obtain ⟨c, bk, ls, wd, rfl, rfl, hc, h1, h2, h3, h4, rfl⟩ := h
  have nd : (["_law_cable_here", "_law_leaks_here", "_law_word", "_law_end"] : List Str).Nodup := by decide +kernel
  refine rn_setd (d := .d (optF (endW wd))) 3 (ed_ixL (ed_lst2 ed_non (ed_zeroF (ed_tup2 ed_int ed_int))) (ed_to (y := .int (if !wd.free then 1 else 0)) (ed_intB T.b_int (ed_eqS (ed_cutS (ev_v 2) (wn_len wd) (.inr ⟨_, _, rfl, rfl, ed_int⟩) (.inl ⟨rfl, rfl⟩)) ed_str)) (by rw [wn_end])) (by cases wd <;> rfl)) ?_ nd
  refine rn_ret (he := ed_call (d__law_seen T) hr (by decide) (ea_cons (ev_v 0) (ea_cons (ev_v 1) (ea_cons (ed_to (y := .bool (!wd.east)) (ed_eqS (ed_cutS (ev_v 2) (wn_len wd) (.inl ⟨rfl, rfl⟩) (.inr ⟨_, _, rfl, rfl, ed_int⟩)) ed_str) (by rw [wn_west])) (ea_cons (ev_v 3) ea_nil)))) (r__law_seen hc h1 h2 h3 h4 (end_ok wd))) fun a z => ⟨rfl, _, z, rfl⟩
end
end Ea

namespace Ea
open PySem PySem.Spec PyProof.Rows L2
section
variable {X : Cx} {O : OS} {ds : AS} {e tg it a b c : Expr} {es : List Expr} {ss rest body orelse : List Stmt} {pos : Pos} {N : OS → AS → Prop} {R : OS → AV → Prop}
/-! ### the purse: three ints of which nothing is known -/
theorem ei_pu {p : Addr} {k : Int} (hm : (p, OV.pu) ∈ O) (ha : Ev X O a ds (· = .own p)) (hb : Ed X O b ds (.int k)) (hk : k = 0 ∨ k = 1 ∨ k = 2) (hs : PlainIx b := by exact fun _ _ => rfl) : EvI X O (.Subscript a b pos) ds fun _ => True := ev_ix ix_list ha hb (fun p1 q1 hp hq => by
  subst hp hq
  intro G H u v w hu hv Q q
  have hu' : u = V.ref p := hu
  subst hu'
  cases hv
  obtain ⟨x0, x1, x2, e⟩ := w.own _ hm
  have e' : H p = some (.lst [.int x0, .int x1, .int x2]) := e
  have key : ∃ n : Int, atI [V.int x0, V.int x1, V.int x2] k = some (.int n) := by
    rcases hk with rfl | rfl | rfl
    · exact ⟨x0, rfl⟩
    · exact ⟨x1, rfl⟩
    · exact ⟨x2, rfl⟩
  obtain ⟨n, hn⟩ := key
  exact ⟨p, _, k, _, rfl, rfl, .inl (.inl e'), hn, q _ _ G H ⟨n, rfl, trivial⟩ w Stp.refl (.int n)⟩) hs
theorem rn_puSet {p : Addr} {k : Int} {A : Int → Prop} {value o i : Expr} {pos' : Pos} (hv : EvI X ((p, .pu) :: O) value ds A) (ho : Ev X ((p, .pu) :: O) o ds (· = .own p)) (hi : Ed X ((p, .pu) :: O) i ds (.int k)) (hk : k = 0 ∨ k = 1 ∨ k = 2)
    (h : Rn X ((p, .pu) :: O) rest ds N R)
    (hs : swapsWithSole [.Subscript o i pos'] value pos.line X.env = pure false := by rfl) (hw : swappedStores [.Subscript o i pos'] value X.env = pure none := by rfl)
    (h1 : (assignEach [.Subscript o i pos'] X.env).map (·.2) = [assign (.Subscript o i pos') X.env] := by rfl)
    (hg : ∀ v, assign (.Subscript o i pos') X.env v = (do
      let ov ← holding [v] (eval o X.env)
      let iv ← holding [v, ov] (eval i X.env)
      standAt pos'
      holding [v, ov, iv] (setItem ov iv v)
      release [v, ov, iv] []) := by intro _; rfl) :
    Rn X ((p, .pu) :: O) (.Assign [.Subscript o i pos'] value pos :: rest) ds N R := fun D G σ H w sd hn hr => by
  refine ⟨_, pss_cons (ps_asg pe_ok (pg_sub pe_ok pe_ok set_list hg) hs hw h1) pss_ok, ?_⟩
  refine hv G σ H w sd _ fun a1 v1 G1 H1 h1 w1 s1 r1 => ho G1 σ H1 w1 (sd.on s1) _ fun a2 v2 G2 H2 h2 w2 s2 r2 => hi G2 σ H2 w2 (sd.on (s1.trans s2)) _ fun a3 v3 G3 H3 h3 w3 s3 r3 => ?_
  obtain ⟨n, rfl, _⟩ := h1
  subst h2 h3
  have r2' : v2 = V.ref p := r2
  subst r2'
  cases r1
  cases r3
  obtain ⟨x0, x1, x2, e⟩ := w3.own _ List.mem_cons_self
  have e' : H3 p = some (.lst [.int x0, .int x1, .int x2]) := e
  have key : ∃ (j : Nat) (y0 y1 y2 : Int), ixN [V.int x0, V.int x1, V.int x2].length k = some j ∧ [V.int x0, V.int x1, V.int x2].set j (.int n) = [V.int y0, V.int y1, V.int y2] := by
    rcases hk with rfl | rfl | rfl
    · exact ⟨0, n, x1, x2, rfl, rfl⟩
    · exact ⟨1, x0, n, x2, rfl, rfl⟩
    · exact ⟨2, x0, x1, n, rfl, rfl⟩
  obtain ⟨j, y0, y1, y2, hj, hset⟩ := key
  refine ⟨p, _, k, j, rfl, rfl, e', hj, ?_⟩
  rw [hset]
  have w4 : Wd X.K ((p, .pu) :: O) G3 (upd H3 p (.lst [.int y0, .int y1, .int y2])) := w3.chg ⟨y0, y1, y2, upd_same⟩
  have s4 : Stp (adr ((p, OV.pu) :: O)) G3 H3 G3 (upd H3 p (.lst [.int y0, .int y1, .int y2])) := st_chg List.mem_cons_self
  have s5 := ((s1.trans s2).trans s3).trans s4
  exact h D G3 σ _ w4 (sd.on s5) (fun O' ds' G' σ' H' q w2 s2 => hn O' ds' G' σ' H' q w2 (s5.trans s2)) fun O' a v G' H' q w2 s2 => hr O' a v G' H' q w2 (s5.trans s2)
/-- return of a new purse -/
theorem pss_retPu {B : List AV → Prop} {p2 : Pos} (h : EvA X O es ds B) (hB : ∀ as, B as → ∃ i j k : Int, as = [.d (.int i), .d (.int j), .d (.int k)]) (D : Ends) (G : Hp) (σ : L2.St) (H : Hp) (w : Wd X.K O G H) (sd : SD X.K G σ ds)
    (hr : ∀ p G' H', H p = none → Wd X.K ((p, .pu) :: O) G' H' → Stp (adr O) G H G' H' → D.rt (.ref p) H') : pss X (.Return (some (.List es p2)) pos :: rest) D σ H :=
  ⟨_, pss_cons (ps_ret (pe_lst pa_ok)) pss_never, h G σ H w sd _ fun as vs G1 H1 hb w1 s1 r1 => by
    obtain ⟨i, j, k, rfl⟩ := hB as hb
    cases r1 with
    | cons r1 t =>
      cases t with
      | cons r2 t =>
        cases t with
        | cons r3 t =>
          cases t
          cases r1; cases r2; cases r3
          refine ⟨sz15 (by show 3 ≤ 1000; decide), fun p hp => ?_⟩
          refine hr p G1 _ ?_ (w1.cons hp ⟨i, j, k, upd_same⟩) (s1.trans (st_new hp))
          by_cases y : H p = none
          · exact y
          · exact absurd hp (s1.dm p y)⟩
def spPu (K : PySem.W.Frag) : Sp := fun vs H Q _ => ∃ (G : Hp) (O : OS) (i : Int), vs = [.int i] ∧ Wd K O G H ∧ ∀ p G' H', H p = none → Wd K ((p, .pu) :: O) G' H' → Stp (adr O) G H G' H' → Q (.ref p) H'
structure Dpu (P : Program) (w : World) (K : PySem.W.Frag) (mg : Str → Option Value) (base : Heap) (k : Nat) (x : Str) : Prop where
  ex : ∃ (f : Addr) (fd : FuncData) (ps : List Str), FnOk P w K mg base CX0 k f fd ps (spPu K) ∧ mg x = some (.ref f) ∧ PySem.W.keepIn K (.ref f) = true ∧ Binds K fd ps []
/-- x = the new purse of e -/
theorem rn_purse {x f : Str} {A : Int → Prop} {j k : Nat} {p p' : Pos} {cpos : Pos} (i : Nat) (D : Dpu X.prog X.w X.K X.mg X.base k f) (hr0 : Room j X.A) (hk : k ≤ j) (ha : EvI X O e ds A) (h : ∀ q : Addr, Rn X ((q, .pu) :: O) rest (ds.set i (some (.own q))) N R) (hN : X.N.Nodup) (hi : X.N[i]? = some x := by rfl)
    (hx : Loc X.env.scope x := by first | exact Or.inl rfl | exact Or.inr rfl) (hs : swapsWith (.Call (.Name f p) [e] [] cpos) (some (.Name x p')) pos.line X.env = pure false := by rfl)
    (hf : X.fn x = true ∨ X.env.scope.names.lookup x = some .local := by first | exact .inl rfl | exact .inr rfl)
    (hg : Gl X f := by rfl) (hdb : (f == ("__debug__" : Str)) = false := by decide)
    (he : starEach (e :: []) X.env = (false, eval e X.env) :: starEach [] X.env := by rfl) (hpl : (backTo cpos (starEach [] X.env)).any (·.1) = false := by rfl) :
    Rn X O (.Assign [.Name x p'] (.Call (.Name f p) [e] [] cpos) pos :: rest) ds N R := fun D1 G σ H w sd hn hr => by
  obtain ⟨fa, fd, ps, F, hm, hkp, hb⟩ := D.ex
  refine ⟨_, pss_cons (ps_set (i := i) hN hi hx (pe_call F (hr0.mono hk) hg hm hkp hb .nil pass0 (pa_cons pe_ok pa_nil he) hdb he hpl) hs hf) pss_ok, ?_⟩
  refine ha G σ H w sd _ fun a1 v1 G1 H1 h1 w1 s1 r1 => ?_
  obtain ⟨n, rfl, _⟩ := h1
  cases r1
  refine ⟨G1, O, n, rfl, w1, fun q G2 H2 hq w2 s2 => ?_⟩
  have s12 := s1.trans s2
  have hmm : ∀ c ∈ adr ((q, OV.pu) :: O), c ∈ adr O ∨ H c = none := fun c hc => (List.mem_cons.mp hc).elim (fun z => .inr (by
    rw [z]
    by_cases y : H q = none
    · exact y
    · exact absurd hq (s1.dm q y))) .inl
  exact h q D1 G2 _ H2 w2 ((sd.on s12).set (a := .own q) rfl i) (fun O' ds' G' σ' H' qq w3 s3 => hn O' ds' G' σ' H' qq w3 (s12.trans' s3 hmm)) fun O' a v G' H' qq w3 s3 => hr O' a v G' H' qq w3 (s12.trans' s3 hmm)
/-! ### more of which only a fact is known -/
theorem ei_sub {A B C : Int → Prop} (ha : EvI X O a ds A) (hb : EvI X O b ds B) (h : ∀ i j, A i → B j → C (i - j)) : EvI X O (.BinOp a .Sub b pos) ds C := ev_op op_sub ha hb fun p q hp hq => by
  obtain ⟨i, rfl, hi⟩ := hp
  obtain ⟨j, rfl, hj⟩ := hq
  exact ro_IN0 (h i j hi hj)
theorem ei_fdiv {A B C : Int → Prop} (ha : EvI X O a ds A) (hb : EvI X O b ds B) (h : ∀ i j, A i → B j → CDivW i j ∧ C (i / j)) : EvI X O (.BinOp a .FloorDiv b pos) ds C := ev_op op_fdivW ha hb fun p q hp hq => by
  obtain ⟨i, rfl, hi⟩ := hp
  obtain ⟨j, rfl, hj⟩ := hq
  exact ro_IN (h i j hi hj).1 (h i j hi hj).2
/-- a small factor, any other -/
theorem ei_mulS {A B C : Int → Prop} (ha : EvI X O a ds A) (hb : EvI X O b ds B) (h : ∀ i j, A i → B j → CMul i j ∧ C (i * j)) : EvI X O (.BinOp a .Mult b pos) ds C := ev_op op_mul ha hb fun p q hp hq => by
  obtain ⟨i, rfl, hi⟩ := hp
  obtain ⟨j, rfl, hj⟩ := hq
  exact ro_IN (h i j hi hj).1 (h i j hi hj).2
/-- a test that may go either way -/
def EvB (X : Cx) (O : OS) (e : Expr) (ds : AS) : Prop := ∀ G σ H, Wd X.K O G H → SD X.K G σ ds → ∀ Q : Bool → Hp → Prop, (∀ k G' H', Wd X.K O G' H' → Stp (adr O) G H G' H' → Q k H') → pt X e σ H Q
theorem eb_gt {A B : Int → Prop} (ha : EvI X O a ds A) (hb : EvI X O b ds B) : EvB X O (.Compare a [.Gt] [b] pos) ds := fun G σ H w sd Q q =>
  ⟨_, pt_cmpR op_gt pe_ok pe_ok (nomark _), ha G σ H w sd _ fun p v G1 H1 hp w1 s1 r1 => hb G1 σ H1 w1 (sd.on s1) _ fun p2 v2 G2 H2 hp2 w2 s2 r2 => by
    obtain ⟨i, rfl, _⟩ := hp
    obtain ⟨j, rfl, _⟩ := hp2
    cases r1; cases r2
    exact ⟨i, j, rfl, rfl, _, rfl, q _ G2 H2 w2 (s1.trans s2)⟩⟩
theorem eb_eq {A B : Int → Prop} (ha : EvI X O a ds A) (hb : EvI X O b ds B) : EvB X O (.Compare a [.Eq] [b] pos) ds := fun G σ H w sd Q q =>
  ⟨_, pt_cmpR op_eq pe_ok pe_ok (nomark _), ha G σ H w sd _ fun p v G1 H1 hp w1 s1 r1 => hb G1 σ H1 w1 (sd.on s1) _ fun p2 v2 G2 H2 hp2 w2 s2 r2 => by
    obtain ⟨i, rfl, _⟩ := hp
    obtain ⟨j, rfl, _⟩ := hp2
    cases r1; cases r2
    exact ⟨rfl, _, rfl, q _ G2 H2 w2 (s1.trans s2)⟩⟩
theorem rn_ifN (hc : EvB X O c ds) (h1 : Rn X O body ds (fun O' ds' => (∀ p ∈ adr O', p ∈ adr O) ∧ Rn X O' rest ds' N R) R) (h2 : Rn X O orelse ds (fun O' ds' => (∀ p ∈ adr O', p ∈ adr O) ∧ Rn X O' rest ds' N R) R) : Rn X O (.If c body orelse pos :: rest) ds N R := fun D G σ H w sd hn hr => by
  refine ⟨_, pss_cons (ps_if pt_ok pss_ok pss_ok) pss_ok, hc G σ H w sd _ fun k G1 H1 w1 s1 => ?_⟩
  have hr' : ∀ O' a v G' H', R O' a → Wd X.K O' G' H' → Stp (adr O) G1 H1 G' H' → AVok X.K G' v a → D.rt v H' := fun O' a v G' H' q w2 s2 => hr O' a v G' H' q w2 (s1.trans s2)
  have hn' : ∀ O' ds' G' σ' H', ((∀ p ∈ adr O', p ∈ adr O) ∧ Rn X O' rest ds' N R) → Wd X.K O' G' H' → Stp (adr O) G1 H1 G' H' → SD X.K G' σ' ds' → pss X rest D σ' H' := fun O' ds' G' σ' H' q w2 s2 sd2 =>
    q.2 D G' σ' H' w2 sd2 (fun O3 ds3 G3 σ3 H3 q3 w3 s3 => hn O3 ds3 G3 σ3 H3 q3 w3 ((s1.trans s2).trans (s3.mono q.1))) fun O3 a3 v3 G3 H3 q3 w3 s3 => hr O3 a3 v3 G3 H3 q3 w3 ((s1.trans s2).trans (s3.mono q.1))
  cases k with
  | true => exact iteT (h1 { D with nx := pss X rest D } G1 σ H1 w1 (sd.on s1) hn' hr')
  | false => exact iteF (h2 { D with nx := pss X rest D } G1 σ H1 w1 (sd.on s1) hn' hr')
/-- the branch ends the def -/
theorem rn_ifRN (hc : EvB X O c ds) (h1 : Rn X O body ds (fun _ _ => False) R) (h2 : Rn X O rest ds N R) : Rn X O (.If c body [] pos :: rest) ds N R :=
  rn_ifN hc (h1.imp (fun _ _ z => z.elim) fun _ _ z => z) (rn_nil ⟨fun _ h => h, h2⟩)
/-- xs[:e] -/
theorem ev_cutLN {xs : List PyData} {hi : Expr} {A : Int → Prop} {C : AV → Prop} {p2 : Pos} (ha : Ed X O e ds (.list xs)) (hh : EvI X O hi ds A) (hC : ∀ i, A i → C (.d (.list (cutL xs none (some i))))) : Ev X O (.Subscript e (.Slice none (some hi) none p2) pos) ds C := fun G σ H w sd Q q => by
  refine ⟨_, pe_slice sl_list pe_ok po_none (po_some pe_ok), ha G σ H w sd _ fun a v G1 H1 ha w1 s1 r1 => hh G1 σ H1 w1 (sd.on s1) _ fun a2 v2 G2 H2 h2 w2 s2 r2 => ?_⟩
  subst ha
  obtain ⟨i, rfl, hi2⟩ := h2
  cases r2
  cases r1 with
  | lst hs hd =>
    refine ⟨i, rfl, _, _, rfl, w2.sub.seq (s2.gg.seq hs), fun p hp => ?_⟩
    obtain ⟨w4, s4⟩ := w2.new (o := .lst (cutV _ none (some i))) hp
    refine q _ _ _ _ (hC i hi2) w4 (s1.trans (s2.trans s4)) (.lst (.inl (.inl upd_same)) ?_)
    have hd2 := dpa_same ((s2.trans s4).gg) _ _ hd
    unfold cutL
    rw [← dpa_len hd]
    exact dpa_take _ (dpa_drop _ hd2)
/-- sum(e), e a list of ints -/
theorem ei_sum {p : Pos} {A C : Int → Prop} (hcm : X.calm = true) (hm : X.mg "sum" = none) (ha : Ev X O e ds (fun v => ∃ ns : List Int, v = .d (.list (ns.map PyData.int)) ∧ C ns.sum)) (hg : Gl X "sum" := by rfl)
    (he : starEach (e :: []) X.env = (false, eval e X.env) :: starEach [] X.env := by rfl) (hpl : (backTo pos (starEach [] X.env)).any (·.1) = false := by rfl) : EvI X O (.Call (.Name "sum" p) [e] [] pos) ds C := fun G σ H w sd Q q =>
  ⟨_, pe_callB (cr_sum hcm) hg hm (by decide +kernel) (pa_cons pe_ok pa_nil he) (by decide) (by decide) he hpl, ha G σ H w sd _ fun a v G1 H1 hv w1 s1 r1 => by
    obtain ⟨ns, rfl, hc⟩ := hv
    cases r1 with
    | lst hs hd =>
      have e := dpa_ints hd
      subst e
      exact ⟨_, ns, rfl, w1.sub.seq hs, q _ _ G1 H1 ⟨_, rfl, hc⟩ w1 s1 (.int _)⟩⟩
/-- range(e), e told but for a fact -/
theorem rn_forR {p : Pos} {A : Int → Prop} (hm : X.mg "range" = none) (he : EvI X O a ds A) (hA : ∀ i, A i → 0 ≤ i ∧ i < 2 ^ 62) (Inv : Nat → Nat → OS → AS → Prop) (hp : PassesOwn (model X.prog X.w) X.A X.env X.xe) (hc : X.calm = true) (h0 : ∀ n : Nat, A n → Inv n 0 O ds)
    (hs : ∀ (n i : Nat) (O' : OS) (ds' : AS), A n → i < n → adr O' = adr O → Inv n i O' ds' → ∃ ds2, Tgt X tg ds' (.int (i : Nat)) ds2 ∧ Rn X O' body ds2 (fun O2 ds3 => adr O2 = adr O ∧ Inv n (i + 1) O2 ds3) R)
    (hd : ∀ (n : Nat) (O' : OS) (ds' : AS), A n → adr O' = adr O → Inv n n O' ds' → Rn X O' rest ds' N R) (hg : Gl X "range" := by rfl)
    (hs1 : starEach [a] X.env = [(false, eval a X.env)] := by rfl) {rpos : Pos} (hfold : ∀ x, foldedSetIterable (.Call (.Name "range" p) [a] [] rpos) X.env x = pure x := by intro _; rfl) : Rn X O (.For tg (.Call (.Name "range" p) [a] [] rpos) body [] pos :: rest) ds N R := fun D G σ H w sd hn hr => by
  refine ⟨_, pss_cons (ps_for hp hc (pi_range1 hg hm (pa_cons pe_ok pa_nil hs1) hs1) pg_ok pss_ok hfold) pss_ok, he G σ H w sd _ fun a1 v1 G1 H1 h1 w1 s1 r1 => ?_⟩
  obtain ⟨j, rfl, hj⟩ := h1
  obtain ⟨j0, j1⟩ := hA j hj
  obtain ⟨n, rfl⟩ : ∃ n : Nat, j = n := ⟨j.toNat, by omega⟩
  cases r1
  refine ⟨_, rfl, by omega, j1, ?_⟩
  refine ⟨fun i m σ' H' => m = n - i ∧ i ≤ n ∧ ∃ O' ds' G', adr O' = adr O ∧ Inv n i O' ds' ∧ Wd X.K O' G' H' ∧ Stp (adr O) G1 H1 G' H' ∧ SD X.K G' σ' ds', ⟨_, rfl, Nat.zero_le _, O, ds, G1, rfl, h0 n hj, w1, Stp.refl, sd.on s1⟩, ?_⟩
  rintro i m σ2 H2 ⟨rfl, hil, O2, ds2, G2, ho, inv, w2, s2, sd2⟩
  by_cases hlt : i < n
  · refine .inr ⟨show i < ((n : Nat) : Int).toNat by omega, fun σ' H' => ∃ O' ds' G', adr O' = adr O ∧ Inv n (i + 1) O' ds' ∧ Wd X.K O' G' H' ∧ Stp (adr O) G1 H1 G' H' ∧ SD X.K G' σ' ds', fun σ' H' q => ⟨_, by omega, rfl, hlt, q⟩, fun v H' hy => ?_⟩
    obtain ⟨e1, e2⟩ := hy
    subst e1
    rw [Int.zero_add] at e2
    obtain ⟨ds3, ht, hb⟩ := hs n i O2 ds2 hj hlt ho inv
    refine ht G2 σ2 H' v sd2 w2.sub (by rw [e2]; exact .int _) _ fun σ3 sd3 => hb _ G2 σ3 H' w2 sd3 (fun O' ds' G' σ' H4 q w4 s4 sd4 => ⟨O', ds', G', q.1, q.2, w4, s2.trans (by rw [ho] at s4; exact s4), sd4⟩) fun O' a v G' H4 q w4 s4 r4 => ?_
    rw [ho] at s4
    exact hr O' a v G' H4 q w4 ((s1.trans s2).trans s4) r4
  · have e : i = n := by omega
    subst e
    refine .inl ⟨show ((i : Nat) : Int).toNat ≤ i by omega, hd i O2 ds2 hj ho inv D G2 σ2 H2 w2 sd2 (fun O' ds' G' σ' H' q w4 s4 => ?_) fun O' a v G' H' q w4 s4 => ?_⟩
    · rw [ho] at s4
      exact hn O' ds' G' σ' H' q w4 ((s1.trans s2).trans s4)
    · rw [ho] at s4
      exact hr O' a v G' H' q w4 ((s1.trans s2).trans s4)
/-- a value told but for a fact, one of which it can be taken -/
theorem ev_ex {ι : Type} {A : ι → AV → Prop} (i : ι) (h : Ev X O e ds (A i)) : Ev X O e ds fun v => ∃ i, A i v := h.imp fun _ z => ⟨i, z⟩
/-- a fraction of which only a fact is known -/
abbrev EvF (X : Cx) (O : OS) (e : Expr) (ds : AS) (A : Rat → Prop) : Prop := Ev X O e ds fun v => ∃ q, v = .d (fr q) ∧ A q
theorem ef_of {q : Rat} (h : Ed X O e ds (fr q)) : EvF X O e ds (· = q) := h.imp fun _ z => ⟨q, z, rfl⟩
end
end Ea

namespace Ea
/-! ### leaks as the law makes them -/
structure LkS (c : List Ln) (l : Rat × Rat) : Prop where
  x0 : 0 ≤ l.1
  x1 : l.1 ≤ ((stepsC c : Nat) : Rat)
  sx : Sz 4000 l.1
  g0 : 0 < l.2
  sg : Sz 6 l.2
  d36 : ∃ k : Nat, dragC c l.1 * 36 = (k : Rat)
theorem LkS.leak {c : List Ln} {l : Rat × Rat} (h : LkS c l) : LeakC c l.1 l.2 := ⟨h.x0, h.x1, h.g0⟩
theorem LkS.sn {c : List Ln} {bk : Rat} {l : Rat × Rat} (hc : GoodC c bk) (h : LkS c l) : Sz 20 (dragC c l.1) := by
  have b := dragC_bd c l.1 hc.all h.x0
  exact sz_36 hc b.1 b.2 h.d36
theorem LkS.ok {c : List Ln} {bk : Rat} {l : Rat × Rat} (hc : GoodC c bk) (h : LkS c l) : LkOk c l := ⟨h.x0, h.sx, (h.sn hc).mono (by decide), h.sg.mono (by decide), h.g0⟩
theorem whole_36 {c : List Ln} {bk : Rat} (hc : GoodC c bk) : ∃ k : Nat, wholeC c * 36 = (k : Rat) := by
  obtain ⟨m, e, _⟩ := whole_six c hc.all
  refine ⟨m * 6, ?_⟩
  rw [Rat.natCast_mul]
  have : ((6 : Nat) : Rat) = 6 := rfl
  grind
theorem sub_36 {p q : Rat} (hp : ∃ k : Nat, p * 36 = (k : Rat)) (hq : ∃ k : Nat, q * 36 = (k : Rat)) (h : p ≤ q) : ∃ k : Nat, (q - p) * 36 = (k : Rat) := by
  obtain ⟨a, ea⟩ := hp
  obtain ⟨b, eb⟩ := hq
  have hab : ((a : Nat) : Rat) ≤ (b : Rat) := by grind
  have hab2 := Rat.natCast_le_natCast.mp hab
  refine ⟨b - a, ?_⟩
  have e4 : ((b : Nat) : Rat) = ((b - a : Nat) : Rat) + ((a : Nat) : Rat) := by rw [← Rat.natCast_add]; congr 1; omega
  grind
theorem sz_gap {c : List Ln} {bk p q : Rat} (hc : GoodC c bk) (hp0 : 0 ≤ p) (hq : q ≤ wholeC c) (hp : ∃ k : Nat, p * 36 = (k : Rat)) (hq2 : ∃ k : Nat, q * 36 = (k : Rat)) (h : p ≤ q) : Sz 20 (q - p) := sz_36 hc (by grind) (by grind) (sub_36 hp hq2 h)
theorem rdL_one {c : List Ln} {w : W4} {x g : Rat} : rdL c w [(x, g)] = rdC c w x g := by
  unfold rdC
  have e1 : (0 : Rat) + (wholeC c - dragC c x) = wholeC c - dragC c x := by grind
  have e2 : (0 : Rat) + (wholeC c - (wholeC c - dragC c x)) = dragC c x := by grind
  cases w
  · show dragC c x + g = _; rfl
  · show wholeC c - dragC c x + g = _; rfl
  · show dragC c x + par g ((0 : Rat) + (wholeC c - dragC c x)) = _; rw [e1]; rfl
  · show wholeC c - dragC c x + par g ((0 : Rat) + (wholeC c - (wholeC c - dragC c x))) = _; rw [e2]; rfl
/-- points whose drags lie in thirty-sixths -/
structure Pt36 (W : Rat) (p : Rat × Rat) : Prop where
  a0 : 0 ≤ p.1
  a1 : p.1 ≤ W
  d36 : ∃ k : Nat, p.1 * 36 = (k : Rat)
  g0 : 0 < p.2
  sg : Sz 6 p.2
theorem stepE {c : List Ln} {bk : Rat} {e : Option Rat} {h : Rat} {p : Rat × Rat} {m : Nat} (hc : GoodC c bk) (hp : Pt36 (wholeC c) p) (hh : h ≤ wholeC c) (h36 : ∃ k : Nat, h * 36 = (k : Rat)) (hl : p.1 ≤ h) (he : ∀ q, e = some q → 0 ≤ q ∧ Sz m q) : 0 ≤ stepV e h p.1 p.2 ∧ Sz (m + 28) (stepV e h p.1 p.2) := by
  cases e with
  | none => exact ⟨Rat.le_of_lt hp.g0, hp.sg.mono (by omega)⟩
  | some q =>
    obtain ⟨q0, sq⟩ := he q rfl
    have sd := sz_gap hc hp.a0 hh hp.d36 h36 hl
    have r0 : 0 ≤ q + (h - p.1) := by grind
    have := hp.g0
    exact ⟨par_nn hp.g0 r0, (hp.sg.par (sq.add sd) (by grind)).mono (by omega)⟩
theorem stepZ {c : List Ln} {bk : Rat} {e : Option Rat} {p : Rat × Rat} (hc : GoodC c bk) (hp : Pt36 (wholeC c) p) (he : e = none ∨ e = some 0) : 0 ≤ stepV e (wholeC c) p.1 p.2 ∧ Sz 27 (stepV e (wholeC c) p.1 p.2) := by
  rcases he with rfl | rfl
  · exact ⟨Rat.le_of_lt hp.g0, hp.sg.mono (by decide)⟩
  · have sd := sz_gap hc hp.a0 Rat.le_refl hp.d36 (whole_36 hc) hp.a1
    have e0 : (0 : Rat) + (wholeC c - p.1) = wholeC c - p.1 := by grind
    have r0 : 0 ≤ (0 : Rat) + (wholeC c - p.1) := by have := hp.a1; grind
    have := hp.g0
    refine ⟨par_nn hp.g0 r0, ?_⟩
    show Sz 27 (par p.2 (0 + (wholeC c - p.1)))
    rw [e0]
    rw [e0] at r0
    exact hp.sg.par sd (by grind)
theorem seen_ok {c : List Ln} {bk : Rat} {e : Option Rat} {ps : List (Rat × Rat)} (hc : GoodC c bk) (h : ∀ p ∈ ps, Pt36 (wholeC c) p) (ho : ps.Pairwise fun p q => p.1 ≤ q.1) (he : e = none ∨ e = some 0) : 0 ≤ seenV (wholeC c) e ps ∧ Sz 80 (seenV (wholeC c) e ps) := by
  match ps, h, ho with
  | [], _, _ => exact ⟨Rat.le_refl, sz_zero (by decide)⟩
  | [p], h, _ =>
    have hp := h p List.mem_cons_self
    have := stepZ hc hp he
    have s1 := sz_36 hc hp.a0 hp.a1 hp.d36
    have a0 := hp.a0
    exact ⟨Rat.add_nonneg a0 this.1, (s1.add this.2).mono (by decide)⟩
  | [p, q], h, ho =>
    have hp := h p List.mem_cons_self
    have hq := h q (List.mem_cons_of_mem _ List.mem_cons_self)
    have hpq := (List.pairwise_cons.mp ho).1 q List.mem_cons_self
    have z := stepZ hc hq he
    have y := stepE (e := some (stepV e (wholeC c) q.1 q.2)) (m := 27) hc hp hq.a1 hq.d36 hpq (fun r hr => by cases hr; exact z)
    have s1 := sz_36 hc hp.a0 hp.a1 hp.d36
    exact ⟨Rat.add_nonneg hp.a0 y.1, (s1.add y.2).mono (by decide)⟩
  | _ :: _ :: _ :: _, _, _ => exact ⟨Rat.le_refl, sz_zero (by decide)⟩
theorem rdL_ok {c : List Ln} {bk : Rat} {ls : List (Rat × Rat)} (w : W4) (hc : GoodC c bk) (h : ∀ l ∈ ls, LkS c l) (ho : ls.Pairwise fun p q => p.1 ≤ q.1) : 0 ≤ rdL c w ls ∧ Sz 80 (rdL c w ls) := by
  have ow : (ptsW c ls).Pairwise fun p q => p.1 ≤ q.1 := by
    unfold ptsW
    refine List.pairwise_map.mpr ?_
    refine ho.imp_of_mem fun {p q} hp hq hpq => ?_
    exact dragC_mono c p.1 q.1 hc.all (h p hp).x0 hpq
  have hw : ∀ p ∈ ptsW c ls, Pt36 (wholeC c) p := fun p hp => by
    obtain ⟨l, hl, rfl⟩ := List.mem_map.mp hp
    have hk := h l hl
    have b := dragC_bd c l.1 hc.all hk.x0
    exact ⟨b.1, b.2, hk.d36, hk.g0, hk.sg⟩
  have he : endW w = none ∨ endW w = some 0 := by cases w <;> simp [endW, W4.free]
  unfold rdL
  by_cases hE : (!w.east) = true
  · rw [if_pos hE]
    exact seen_ok hc hw ow he
  · rw [if_neg hE]
    refine seen_ok hc (fun p hp => ?_) ?_ he
    · obtain ⟨q, hq, rfl⟩ := List.mem_map.mp hp
      have k := hw q (List.mem_reverse.mp hq)
      have a0 := k.a0
      have a1 := k.a1
      exact ⟨by show 0 ≤ wholeC c - q.1; grind, by show wholeC c - q.1 ≤ wholeC c; grind, sub_36 k.d36 (whole_36 hc) k.a1, k.g0, k.sg⟩
    · unfold ptsE
      refine List.pairwise_map.mpr (List.pairwise_reverse.mpr (ow.imp fun {p q} hpq => ?_))
      show wholeC c - q.1 ≤ wholeC c - p.1
      grind
/-- whole numbers over whole numbers -/
theorem divInt_nn {i j : Nat} (hj : 0 < j) : 0 ≤ Rat.divInt i j := Rat.divInt_nonneg (by omega) (by omega)
theorem divInt_mul {i : Int} {j : Nat} (hj : 0 < j) : Rat.divInt i j * (j : Rat) = (i : Rat) := by
  have h : (j : Rat) ≠ 0 := fun e => by
    have := Rat.natCast_eq_zero_iff.mp e
    omega
  rw [Rat.divInt_eq_div]
  rw [show ((j : Int) : Rat) = (j : Rat) from Rat.intCast_natCast j]
  exact Rat.div_mul_cancel h
theorem divInt_bd {i j : Nat} (hj : 0 < j) : (Rat.divInt i j).num.natAbs ≤ i ∧ (Rat.divInt i j).den ≤ j := by
  obtain ⟨h1, h2⟩ := low_eq (t := (i : Int)) (n := j) (by omega)
  have hg : 0 < Nat.gcd (i : Int).natAbs j := Nat.gcd_pos_of_pos_right _ hj
  rw [Int.natAbs_natCast] at h1 h2 hg
  constructor
  · rw [h1, ← Int.natCast_ediv, Int.natAbs_natCast]
    exact Nat.div_le_self _ _
  · have h3 : ((Rat.divInt i j).den : Int) = ((j / Nat.gcd i j : Nat) : Int) := by rw [h2, Int.natCast_ediv]
    have h4 : (Rat.divInt i j).den = j / Nat.gcd i j := by exact_mod_cast h3
    rw [h4]
    exact Nat.div_le_self _ _
theorem divInt_sz {i j n : Nat} (hj : 0 < j) (h1 : i < 2 ^ n) (h2 : j < 2 ^ n) : Sz n (Rat.divInt i j) := by
  obtain ⟨a, b⟩ := divInt_bd (i := i) hj
  exact ⟨⟨by omega⟩, ⟨by omega⟩⟩
theorem divInt_pos {i j : Nat} (hi : 0 < i) (hj : 0 < j) : 0 < Rat.divInt i j := by
  have h := divInt_mul (i := (i : Int)) hj
  have h0 := divInt_nn (i := i) hj
  rcases Rat.le_iff_lt_or_eq.mp h0 with z | z
  · exact z
  · rw [← z] at h
    have : ((i : Int) : Rat) = 0 := by grind
    have := Rat.intCast_eq_zero_iff.mp this
    omega
end Ea

namespace Ea
open PySem PySem.Spec PyProof.Rows L2
section
variable {X : Cx} {O : OS} {ds : AS} {e a b c : Expr} {es : List Expr} {pos : Pos}
theorem vi_add {A B : Int → Prop} (ha : EvI X O a ds A) (hb : EvI X O b ds B) : EvI X O (.BinOp a .Add b pos) ds (fun m => ∃ i j, A i ∧ B j ∧ m = i + j) := ei_add ha hb fun i j hi hj => ⟨i, j, hi, hj, rfl⟩
theorem vi_ix {xs : List PyData} {B : Int → Prop} (ha : Ed X O a ds (.list xs)) (hb : EvI X O b ds B) (h : ∀ i, B i → ∃ n, atI xs i = some (.int n)) (hs : PlainIx b := by exact fun _ _ => rfl) : EvI X O (.Subscript a b pos) ds (fun n => ∃ i, B i ∧ atI xs i = some (.int n)) := ev_ixLN ha hb (fun i hi => by
  obtain ⟨n, hn⟩ := h i hi
  exact ⟨_, hn, n, rfl, i, hi, hn⟩) hs
theorem ev_tup2N {k} {A B C : AV → Prop} (ha : Ev X O a ds A) (hb : Ev X O b ds B) (h : ∀ x y, A x → B y → ∃ d d', x = .d d ∧ y = .d d' ∧ C (.d (.tuple [d, d']))) (h1 : starEach (a :: [b]) X.env = (false, eval a X.env) :: starEach [b] X.env := by rfl) (h2 : starEach (b :: []) X.env = (false, eval b X.env) :: starEach [] X.env := by rfl) : Ev X O (.Tuple [a, b] k pos) ds C :=
  ev_tup (B := fun as => ∃ x y, as = [x, y] ∧ A x ∧ B y) (ea_consN (B := fun as => ∃ y, as = [y] ∧ B y) ha (ea_consN (B := (· = [])) hb ea_nil (fun y as hy e => ⟨y, by rw [e], hy⟩) h2) (fun x as hx ⟨y, e, hy⟩ => ⟨x, y, by rw [e], hx, hy⟩) h1) fun as ⟨x, y, e, hx, hy⟩ => by
    obtain ⟨d, d', rfl, rfl, hC⟩ := h x y hx hy
    exact ⟨[d, d'], by rw [e]; rfl, by show 2 ≤ 1000; decide, hC⟩
theorem ea_one {p : AV} {B : AV → Prop} (ha : Ev X O a ds (· = p)) (hb : Ev X O b ds B) (h1 : starEach (a :: [b]) X.env = (false, eval a X.env) :: starEach [b] X.env := by rfl) (h2 : starEach (b :: []) X.env = (false, eval b X.env) :: starEach [] X.env := by rfl) : EvA X O [a, b] ds (fun as => ∃ y, as = [p, y] ∧ B y) :=
  ea_consN (B := fun as => ∃ y, as = [y] ∧ B y) ha (ea_consN (B := (· = [])) hb ea_nil (fun y as hy e => ⟨y, by rw [e], hy⟩) h2) (fun x as hx ⟨y, e, hy⟩ => ⟨y, by rw [e, hx], hy⟩) h1
end
def Rcell : RF := fun O as B => ∃ (ns : List Int) (k : Nat), O = [] ∧ as = [.d (.list (ns.map PyData.int)), .d (.int (k : Nat))] ∧ k ≤ 1 ∧ ns.length ≤ 1000 ∧ B = fun r => ∃ i : Int, r = .int i
def Rpick : RF := fun O as B => ∃ (p : Addr) (n : Int), O = [(p, .pu)] ∧ as = [.own p, .d (.int n)] ∧ 0 < n ∧ Sm 60 n.natAbs ∧ B = fun r => ∃ k : Int, r = .int k ∧ 0 ≤ k ∧ k < n
theorem at_nat {xs : List PyData} {k : Nat} {d : PyData} (h : xs[k]? = some d) : atI xs (k : Nat) = some d := by
  have hk := (List.getElem?_eq_some_iff.mp h).1
  unfold atI ixN
  simp [hk]
  exact (List.getElem?_eq_some_iff.mp h).2
section
variable {P : Program} {w : World} {K : PySem.W.Frag} {mg : Str → Option Value} {base : Heap}
theorem d__law_cell (T : Tx K mg) : Df P w K mg base 1 "_law_cell" Rcell := df_mk (N := ["_law_script", "_law_k", "_law_state", "_law_cell_here"]) (ps := ["_law_script", "_law_k"]) T.f__law_cell ⟨rfl, rfl, rfl, by decide +kernel, rfl, by decide +kernel, by decide +kernel⟩ (fun _ _ _ _ _ _ us hl => match us, hl with | [_, _], _ => rfl) (fun O as B h => by obtain ⟨_, _, _, rfl, _⟩ := h; rfl) fun f cdv A outer s H E hr O as B h => by
  obtain ⟨ns, k, rfl, rfl, hk, hl, rfl⟩ := h
  have nd : (["_law_script", "_law_k", "_law_state", "_law_cell_here"] : List Str).Nodup := by decide +kernel
  refine rn_ifR (et_lt (ev_v 1) (ed_len T.b_len (ev_v 0) (.inl rfl))) (fun h1 => ?_) fun _ => ?_
  · have h2 := of_decide_eq_true h1
    rw [List.length_map] at h2
    have h3 : k < ns.length := by omega
    exact rn_ret (he := ed_ixL (d := .int ns[k]) (ev_v 0) (ev_v 1) (at_nat (by rw [List.getElem?_map, List.getElem?_eq_getElem h3]; rfl))) fun a z => ⟨rfl, _, z, _, rfl⟩
  · refine rn_setd 2 (ed_mod (ed_mul ed_int (ed_add (ed_add (ed_mul (ev_v 1) (ev_v 1) ?_) (ed_mul ed_int (ev_v 1) ?_)) ed_int) ?_) ed_int ?_) ?_ nd
    · rcases (show k = 0 ∨ k = 1 by omega) with rfl | rfl <;> exact cm (m := 2) (n := 2) ⟨by decide⟩ ⟨by decide⟩
    · exact cm (m := 5) (n := 2) ⟨by decide⟩ ⟨by omega⟩
    · rcases (show k = 0 ∨ k = 1 by omega) with rfl | rfl <;> exact cm (m := 20) (n := 10) ⟨by decide⟩ ⟨by decide⟩
    · decide
    refine rn_for0 (fun i ds => ∃ (s : Int) (o3 : Option AV), ds = [some (.d (.list (ns.map PyData.int))), some (.d (.int (k : Nat))), some (.d (.int s)), o3] ∧ 0 ≤ s ∧ s < 1000000021) PassesOwn.never rfl (iw_list (ed_cutL (ev_v 0) (.inl ⟨rfl, rfl⟩) (.inr ⟨_, _, rfl, rfl, ed_int⟩))) ⟨_, none, rfl, Int.emod_nonneg _ (by decide), Int.emod_lt_of_pos _ (by decide)⟩ (fun i y ds' hy inv => ?_) fun ds' inv => ?_
    · obtain ⟨st, o3, rfl, s0, s1⟩ := inv
      have hm := List.mem_of_mem_drop (List.mem_of_mem_take (List.mem_of_getElem? hy))
      obtain ⟨n, _, rfl⟩ := List.mem_map.mp hm
      refine ⟨_, tg_name 3 nd, rn_setd 2 (ed_mod (ed_add (ed_mul (ev_v 2) ed_int ?_) (ev_v 3)) ed_int ?_) (rn_nil ⟨rfl, _, _, rfl, Int.emod_nonneg _ (by decide), Int.emod_lt_of_pos _ (by decide)⟩) nd⟩
      · exact cm (m := 40) (n := 20) ⟨by omega⟩ ⟨by decide⟩
      · decide
    · obtain ⟨st, o3, rfl, s0, s1⟩ := inv
      exact rn_ret (ev_v 2) fun a z => ⟨rfl, _, z, _, rfl⟩
theorem d__law_purse (T : Tx K mg) : Dpu P w K mg base 1 "_law_purse" := by
  obtain ⟨f, fd, F, hm⟩ := T.f__law_purse.ex
  refine ⟨f, fd, ["_law_cell_here"], F.ok (N := ["_law_cell_here"]) ⟨rfl, rfl, rfl, by decide +kernel, rfl, by decide +kernel, by decide +kernel⟩ (fun vs H Q E h => ?_) (fun cdv A outer s H vs Q E hr h => ?_), hm, F.kp, F.binds (fun _ _ _ _ _ _ us hl => match us, hl with | [_], _ => rfl)⟩
  · obtain ⟨G, O, i, rfl, _⟩ := h; rfl
  · obtain ⟨G, O, i, rfl, hw, q⟩ := h
    refine pss_retPu (X := Bx P w K mg base ["_law_cell_here"] "_law_purse" (topS 60) f cdv A outer s H E) (O := O) (ds := startD 1 [.d (.int i)]) (B := (· = [.d (.int _), .d (.int _), .d (.int _)])) (ea_cons (ed_add (ed_mul (ed_mod (ev_v 0) ed_int ?_) ed_int ?_) ed_int) (ea_cons (ed_ixL (d := .int (if (10 : Int) ^ 18 ≤ i then i else 0)) (ed_lst2 ed_int (ev_v 0)) (ed_intB T.b_int (ed_ge (ev_v 0) (ed_pow ed_int ed_int ?_))) ?_) (ea_cons ed_int ea_nil))) (fun as h => ⟨_, _, _, h⟩) { nx := fun _ H' => Q .non H', rt := Q } G _ H hw (SD.start (N := ["_law_cell_here"]) (.cons (.int i) .nil)) (fun p G' H' hp w' s' => q p G' H' hp w' s')
    · decide
    · exact cm (m := 40) (n := 20) ⟨by have := Int.emod_nonneg i (show (999999893 : Int) ≠ 0 by decide); have := Int.emod_lt_of_pos i (show (0 : Int) < 999999893 by decide); omega⟩ ⟨by decide⟩
    · exact ⟨by decide, by decide, by decide⟩
    · show atI [PyData.int 0, PyData.int i] (if decide ((10 : Int) ^ 18 ≤ i) = true then 1 else 0) = _
      by_cases h : (10 : Int) ^ 18 ≤ i
      · rw [decide_eq_true h, if_pos rfl, if_pos h]; rfl
      · rw [decide_eq_false h, if_neg (by decide), if_neg h]; rfl
theorem d__law_pick (T : Tx K mg) : Df P w K mg base 1 "_law_pick" Rpick := df_mk (N := ["_law_purse_here", "_law_many", "_law_state", "_law_taken"]) (ps := ["_law_purse_here", "_law_many"]) T.f__law_pick ⟨rfl, rfl, rfl, by decide +kernel, rfl, by decide +kernel, by decide +kernel⟩ (fun _ _ _ _ _ _ us hl => match us, hl with | [_, _], _ => rfl) (fun O as B h => by obtain ⟨_, _, _, rfl, _⟩ := h; rfl) fun f cdv A outer s H E hr O as B h => by
  obtain ⟨p, n, rfl, rfl, n0, ns, rfl⟩ := h
  have nd : (["_law_purse_here", "_law_many", "_law_state", "_law_taken"] : List Str).Nodup := by decide +kernel
  have hm : (p, OV.pu) ∈ [(p, OV.pu)] := List.mem_cons_self
  refine rn_puSet (A := fun _ => True) (ei_imp (vi_add (ei_pu hm (ev_v 0) ed_int (.inr (.inr rfl))) (ei_of ed_int)) fun _ _ => trivial) (ev_v 0) ed_int (.inr (.inr rfl)) ?_
  refine rn_set 2 (ei_mod (C := fun i => 0 ≤ i ∧ i < 999999893) (ei_pu hm (ev_v 0) ed_int (.inl rfl)) (ei_of ed_int) (fun i j _ hj => by subst hj; omega)) (fun a ha => ?_) nd
  obtain ⟨st, rfl, s0, s1⟩ := ha
  refine rn_puSet (A := fun _ => True) (ei_imp (vi_add (ei_of (ed_mul (ev_v 2) (ed_add (ed_mod (ev_v 2) ed_int (by decide)) ed_int) ?_)) (ei_mulS (C := fun _ => True) (ei_of ed_int) (ei_pu hm (ev_v 0) ed_int (.inr (.inr rfl))) ?_)) fun _ _ => trivial) (ev_v 0) ed_int (.inl rfl) ?_
  · exact cm (m := 40) (n := 40) ⟨by omega⟩ ⟨by omega⟩
  · rintro i j rfl _
    exact ⟨.inl ⟨by decide, by decide⟩, trivial⟩
  have fin : ∀ v : AV, (∃ k : Int, v = .d (.int k) ∧ 0 ≤ k ∧ k < n) → [(p, OV.pu)] = [(p, OV.pu)] ∧ ∃ d, v = .d d ∧ ∃ k : Int, d = .int k ∧ 0 ≤ k ∧ k < n := fun v ⟨k, e, hk⟩ => ⟨rfl, _, e, k, rfl, hk⟩
  refine rn_ifRN (eb_gt (ei_pu hm (ev_v 0) ed_int (.inr (.inl rfl))) (ei_of ed_int)) ?_ ?_
  · refine rn_set 3 (ei_mod (C := fun k => 0 ≤ k ∧ k < n) (ei_pu hm (ev_v 0) ed_int (.inr (.inl rfl))) (ei_of (ev_v 1)) (fun i j _ hj => by subst hj; exact ⟨n0, Int.emod_nonneg _ (by omega), Int.emod_lt_of_pos _ n0⟩)) (fun a ha => ?_) nd
    obtain ⟨k, rfl, k0, k1⟩ := ha
    exact rn_puSet (A := fun _ => True) (ei_fdiv (ei_pu hm (ev_v 0) ed_int (.inr (.inl rfl))) (ei_of (ev_v 1)) (fun i j _ hj => by subst hj; exact ⟨wide_div n0 ns.lt (by decide) (by decide), trivial⟩)) (ev_v 0) ed_int (.inr (.inl rfl)) (rn_ret (ev_v 3) fun a z => fin a ⟨k, z, k0, k1⟩)
  · exact rn_ret (A := fun v => ∃ k, v = .d (.int k) ∧ 0 ≤ k ∧ k < n) (ei_mod (C := fun k => 0 ≤ k ∧ k < n) (ei_fdiv (C := fun _ => True) (ei_mod (C := fun _ => True) (ei_pu hm (ev_v 0) ed_int (.inl rfl)) (ei_of ed_int) (fun i j _ hj => by subst hj; exact ⟨by decide, trivial⟩)) (ei_of ed_int) (fun i j _ hj => by subst hj; exact ⟨wide_div (b := 10) (by decide) (by decide) (by decide) (by decide), trivial⟩)) (ei_of (ev_v 1)) (fun i j _ hj => by subst hj; exact ⟨n0, Int.emod_nonneg _ (by omega), Int.emod_lt_of_pos _ n0⟩)) fun a z => fin a z
end
section
variable {X : Cx} {O : OS} {ds : AS} {e a b c : Expr} {es : List Expr} {pos : Pos}
theorem vi_pick {p : Addr} {A : Int → Prop} {j : Nat} {p1 : Pos} (T : Tx X.K X.mg) (hr : Room j X.A) (hk : 1 ≤ j) (hm : (p, OV.pu) ∈ O) (ha : Ev X O a ds (· = .own p)) (hb : EvI X O b ds A) (h : ∀ n, A n → 0 < n ∧ Sm 60 n.natAbs) (hg : Gl X "_law_pick" := by rfl)
    (h1 : starEach (a :: [b]) X.env = (false, eval a X.env) :: starEach [b] X.env := by rfl) (h2 : starEach (b :: []) X.env = (false, eval b X.env) :: starEach [] X.env := by rfl) (hpl : (backTo pos (starEach [b] X.env)).any (·.1) = false := by rfl) :
    EvI X O (.Call (.Name "_law_pick" p1) [a, b] [] pos) ds (fun k => ∃ n, A n ∧ 0 ≤ k ∧ k < n) :=
  ev_call (d__law_pick T) hr hk (ea_one ha hb h1 h2) (fun as ⟨y, e, n, hy, hn⟩ => ⟨[(p, .pu)], fun r => ∃ k : Int, r = .int k ∧ 0 ≤ k ∧ k < n, ⟨p, n, rfl, by rw [e, hy], (h n hn).1, (h n hn).2, rfl⟩, subO_one hm, fun d ⟨k, e, hk⟩ => ⟨k, by rw [e], n, hn, hk⟩⟩) hg (by decide) h1 hpl
theorem ef_low {A B : Int → Prop} {C : Rat → Prop} {j : Nat} {p1 : Pos} (T : Tx X.K X.mg) (hr : Room j X.A) (hk : 1 ≤ j) (ha : EvI X O a ds A) (hb : EvI X O b ds B) (h : ∀ m n, A m → B n → n ≠ 0 ∧ Sm 9000 n.natAbs ∧ C (Rat.divInt m n)) (hg : Gl X "_law_low" := by rfl)
    (h1 : starEach (a :: [b]) X.env = (false, eval a X.env) :: starEach [b] X.env := by rfl) (h2 : starEach (b :: []) X.env = (false, eval b X.env) :: starEach [] X.env := by rfl) (hpl : (backTo pos (starEach [b] X.env)).any (·.1) = false := by rfl) :
    EvF X O (.Call (.Name "_law_low" p1) [a, b] [] pos) ds C :=
  ev_call (B := fun as => ∃ m n : Int, as = [.d (.int m), .d (.int n)] ∧ A m ∧ B n) (d__law_low T) hr hk (ea_consN (B := fun as => ∃ n : Int, as = [.d (.int n)] ∧ B n) ha (ea_consN (B := (· = [])) hb ea_nil (fun y as ⟨n, e2, hy⟩ e => ⟨n, by rw [e, e2], hy⟩) h2) (fun x as ⟨m, e2, hx⟩ ⟨n, e, hy⟩ => ⟨m, n, by rw [e, e2], hx, hy⟩) h1)
    (fun as ⟨m, n, e, hm, hn⟩ => ⟨[], (· = fr (Rat.divInt m n)), by rw [e]; exact r__law_low (h m n hm hn).1 (h m n hm hn).2.1, subO_nil, fun d e => ⟨_, by rw [e], (h m n hm hn).2.2⟩⟩) hg (by decide) h1 hpl
end
end Ea

namespace Ea
open PySem PySem.Spec PyProof.Rows L2
/-! ### what the law makes of its purse -/
def Rlcab : RF := fun O as B => ∃ p : Addr, O = [(p, .pu)] ∧ as = [.own p, .d (.int 3)] ∧ B = fun r => ∃ c bk, r = cabD c bk ∧ GoodC c bk
def Rsix : RF := fun O as B => ∃ (p : Addr) (c : List Ln) (bk : Rat), O = [(p, .pu)] ∧ as = [.own p, .d (cabD c bk)] ∧ GoodC c bk ∧ B = fun r => ∃ n : Nat, r = .int (n : Nat) ∧ n ≤ 6 * stepsC c
theorem at3 {a b c n i : Int} (h0 : 0 ≤ i) (h1 : i < 3) (e : atI [.int a, .int b, .int c] i = some (PyData.int n)) : n = a ∨ n = b ∨ n = c := by
  rcases (show i = 0 ∨ i = 1 ∨ i = 2 by omega) with rfl | rfl | rfl
  · exact .inl (PyData.int.inj (Option.some.inj (show some (PyData.int a) = _ from e))).symm
  · exact .inr (.inl (PyData.int.inj (Option.some.inj (show some (PyData.int b) = _ from e))).symm)
  · exact .inr (.inr (PyData.int.inj (Option.some.inj (show some (PyData.int c) = _ from e))).symm)
theorem at3e {a b c i : Int} (h0 : 0 ≤ i) (h1 : i < 3) : ∃ n, atI [.int a, .int b, .int c] i = some (PyData.int n) := by
  rcases (show i = 0 ∨ i = 1 ∨ i = 2 by omega) with rfl | rfl | rfl
  · exact ⟨a, rfl⟩
  · exact ⟨b, rfl⟩
  · exact ⟨c, rfl⟩
theorem at4 {a b c d n i : Int} (h0 : 0 ≤ i) (h1 : i < 4) (e : atI [.int a, .int b, .int c, .int d] i = some (PyData.int n)) : n = a ∨ n = b ∨ n = c ∨ n = d := by
  rcases (show i = 0 ∨ i = 1 ∨ i = 2 ∨ i = 3 by omega) with rfl | rfl | rfl | rfl
  · exact .inl (PyData.int.inj (Option.some.inj (show some (PyData.int a) = _ from e))).symm
  · exact .inr (.inl (PyData.int.inj (Option.some.inj (show some (PyData.int b) = _ from e))).symm)
  · exact .inr (.inr (.inl (PyData.int.inj (Option.some.inj (show some (PyData.int c) = _ from e))).symm))
  · exact .inr (.inr (.inr (PyData.int.inj (Option.some.inj (show some (PyData.int d) = _ from e))).symm))
theorem at4e {a b c d i : Int} (h0 : 0 ≤ i) (h1 : i < 4) : ∃ n, atI [.int a, .int b, .int c, .int d] i = some (PyData.int n) := by
  rcases (show i = 0 ∨ i = 1 ∨ i = 2 ∨ i = 3 by omega) with rfl | rfl | rfl | rfl
  · exact ⟨a, rfl⟩
  · exact ⟨b, rfl⟩
  · exact ⟨c, rfl⟩
  · exact ⟨d, rfl⟩
theorem good_low {s : Nat} {m n : Int} (s1 : 1 ≤ s) (s2 : s ≤ 999) (m1 : 1 ≤ m) (m2 : m ≤ 9) (hn : n = 1 ∨ n = 2 ∨ n = 3) : n ≠ 0 ∧ Sm 9000 n.natAbs ∧ GoodL (s, Rat.divInt m n) := by
  obtain ⟨a, rfl⟩ : ∃ a : Nat, m = a := ⟨m.toNat, by omega⟩
  obtain ⟨b, rfl⟩ : ∃ b : Nat, n = b := ⟨n.toNat, by omega⟩
  have hb : 0 < b := by omega
  obtain ⟨h1, h2⟩ := divInt_bd (i := a) hb
  refine ⟨by omega, Sm.mono (m := 4) ⟨by rw [Int.natAbs_natCast]; omega⟩ (by decide), s1, s2, divInt_pos (by omega) hb, by show (Rat.divInt a b).num ≤ 9; omega, ?_⟩
  obtain ⟨_, h3⟩ := low_eq (t := (a : Int)) (n := b) (by omega)
  have h4 : (Rat.divInt (a : Int) (b : Int)).den = b / Nat.gcd a b := by
    rw [Int.natAbs_natCast, ← Int.natCast_ediv] at h3
    exact_mod_cast h3
  show (Rat.divInt (a : Int) (b : Int)).den ∣ 6
  rw [h4]
  have h5 : b / Nat.gcd a b ∣ b := Nat.div_dvd_of_dvd (Nat.gcd_dvd_right a b)
  have h6 : b ∣ 6 := by
    rcases (show b = 1 ∨ b = 2 ∨ b = 3 by omega) with rfl | rfl | rfl <;> decide
  exact Nat.dvd_trans h5 h6
theorem back_low {m n : Int} (m1 : 0 ≤ m) (m2 : m < 30) (n1 : 1 ≤ n) (n2 : n ≤ 3) : n ≠ 0 ∧ Sm 9000 n.natAbs ∧ (0 ≤ Rat.divInt m n ∧ (Rat.divInt m n).num ≤ 999 ∧ (Rat.divInt m n).den ≤ 999) := by
  obtain ⟨a, rfl⟩ : ∃ a : Nat, m = a := ⟨m.toNat, by omega⟩
  obtain ⟨b, rfl⟩ : ∃ b : Nat, n = b := ⟨n.toNat, by omega⟩
  have hb : 0 < b := by omega
  obtain ⟨h1, h2⟩ := divInt_bd (i := a) hb
  exact ⟨by omega, Sm.mono (m := 4) ⟨by rw [Int.natAbs_natCast]; omega⟩ (by decide), divInt_nn hb, by omega, by omega⟩
abbrev ni (c : List Ln) : List Int := c.map fun l => ((l.1 : Nat) : Int)
theorem steps_take (c : List Ln) (m : Nat) : ∃ n : Nat, ((ni c).take m).sum = (n : Int) ∧ n ≤ stepsC c := by
  refine ⟨stepsC (c.take m), ?_, ?_⟩
  · rw [← steps_int, List.map_take]
  · have h : stepsC c = stepsC (c.take m) + stepsC (c.drop m) := by
      have e := congrArg stepsC (List.take_append_drop m c)
      rw [← e]
      unfold stepsC
      rw [List.map_append, List.sum_append]
    omega
theorem cut_take {α β : Type} (f : α → β) (l : List α) (i : Int) : ∃ m, cutL (l.map f) none (some i) = (l.take m).map f := ⟨_, by
  show ((l.map f).drop 0).take _ = _
  rw [List.drop_zero, List.map_take]⟩
theorem steps_le {c : List Ln} {bk : Rat} (h : GoodC c bk) : stepsC c ≤ 2997 := by
  have h1 := sz_steps c h.all
  have := h.len3
  omega
section
variable {P : Program} {w : World} {K : PySem.W.Frag} {mg : Str → Option Value} {base : Heap}
theorem d__law_cable (T : Tx K mg) : Df P w K mg base 2 "_law_cable" Rlcab := df_mk (N := ["_law_purse_here", "_law_most", "_law_lengths", "_law_k", "_law_steps"]) (ps := ["_law_purse_here", "_law_most"]) T.f__law_cable ⟨rfl, rfl, rfl, by decide +kernel, rfl, by decide +kernel, by decide +kernel⟩ (fun _ _ _ _ _ _ us hl => match us, hl with | [_, _], _ => rfl) (fun O as B h => by obtain ⟨_, _, rfl, _⟩ := h; rfl) fun f cdv A outer s H E hr O as B h => by
  obtain ⟨p, rfl, rfl, rfl⟩ := h
  have nd : (["_law_purse_here", "_law_most", "_law_lengths", "_law_k", "_law_steps"] : List Str).Nodup := by decide +kernel
  refine rn_own 2 (fun q => ?_) nd
  have hm : ∀ xs, (p, OV.pu) ∈ [(q, OV.li xs), (p, .pu)] := fun _ => List.mem_cons_of_mem _ List.mem_cons_self
  have hpk : ∀ (k : Int), 0 < k → k < 10000 → ∀ n, n = k → 0 < n ∧ Sm 60 n.natAbs := fun k h0 h1 n e => by subst e; exact ⟨h0, ⟨by omega⟩⟩
  refine rn_forR (A := fun n => 1 ≤ n ∧ n ≤ 3) T.b_range (ei_imp (vi_add (ei_of ed_int) (vi_pick T hr (by decide) (hm []) (ev_v 0) (ei_of (ev_v 1)) (hpk 3 (by decide) (by decide)))) (fun m ⟨i, j, e1, ⟨n, e2, h1, h2⟩, e3⟩ => by subst e1 e2 e3; omega)) (fun i hi => by omega)
    (fun n i O' ds => ∃ (c : List Ln) (o3 o4 : Option AV), O' = [(q, .li (c.map lenD)), (p, .pu)] ∧ ds = [some (.own p), some (.d (.int 3)), some (.own q), o3, o4] ∧ c.length = i ∧ ∀ l ∈ c, GoodL l) PassesOwn.never rfl (fun n _ => ⟨[], none, none, rfl, rfl, rfl, fun _ h => nomatch h⟩) (fun n i O' ds' hA hi hO inv => ?_) (fun n O' ds' hA hO inv => ?_)
  · obtain ⟨c, o3, o4, rfl, rfl, hcl, hg⟩ := inv
    refine ⟨_, tg_name 3 nd, rn_set 4 (A := fun v => ∃ k : Int, v = .d (.int k) ∧ 1 ≤ k ∧ k ≤ 999) (ei_imp (vi_add (ei_of ed_int) (vi_pick T hr (by decide) (hm _) (ev_v 0) (vi_ix (ed_lst3 ed_int ed_int ed_int) (vi_pick T hr (by decide) (hm _) (ev_v 0) (ei_of ed_int) (hpk 3 (by decide) (by decide))) (fun i ⟨n, e, h0, h1⟩ => by subst e; exact at3e h0 h1)) (fun n ⟨i, ⟨n', e, h0, h1⟩, ha⟩ => by subst e; rcases at3 h0 h1 ha with rfl | rfl | rfl <;> exact ⟨by decide, ⟨by decide⟩⟩))) (fun m ⟨i, j, e1, ⟨n, ⟨i', ⟨n', e4, h3, h4⟩, ha⟩, h1, h2⟩, e3⟩ => by subst e1 e3 e4; rcases at3 h3 h4 ha with rfl | rfl | rfl <;> omega)) (fun a ha => ?_) nd⟩
    obtain ⟨k, rfl, k1, k2⟩ := ha
    obtain ⟨st, rfl⟩ : ∃ st : Nat, k = st := ⟨k.toNat, by omega⟩
    refine rn_append (A := fun v => ∃ r, v = .d (lenD (st, r)) ∧ GoodL (st, r)) (ev_v 2) (ev_tup2N (ev_v 4) (ef_low (A := fun m => 1 ≤ m ∧ m ≤ 9) (B := fun n => n = 1 ∨ n = 2 ∨ n = 3) (C := fun r => GoodL (st, r)) T hr (by decide) (ei_imp (vi_add (ei_of ed_int) (vi_pick T hr (by decide) (hm _) (ev_v 0) (ei_of ed_int) (hpk 9 (by decide) (by decide)))) (fun m ⟨i, j, e1, ⟨n, e2, h1, h2⟩, e3⟩ => by subst e1 e2 e3; omega))
      (ei_imp (vi_ix (ed_lst4 ed_int ed_int ed_int ed_int) (vi_pick T hr (by decide) (hm _) (ev_v 0) (ei_of ed_int) (hpk 4 (by decide) (by decide))) (fun i ⟨n, e, h0, h1⟩ => by subst e; exact at4e h0 h1)) (fun n ⟨i, ⟨n', e, h0, h1⟩, ha⟩ => by subst e; rcases at4 h0 h1 ha with rfl | rfl | rfl | rfl <;> omega))
      (fun m n hm hn => good_low (by omega) (by omega) hm.1 hm.2 hn)) (fun x y hx ⟨r, hy, hq⟩ => ⟨_, _, hx, hy, r, rfl, hq⟩)) (by rw [List.length_map]; omega) (fun a ⟨r, e, hq⟩ => ⟨_, e, rn_nil ⟨rfl, c ++ [(st, r)], _, _, ?_, rfl, ?_, fun l hl => ?_⟩⟩)
    · rw [List.map_append]; rfl
    · rw [List.length_append, hcl]; rfl
    · rcases List.mem_append.mp hl with z | z
      · exact hg l z
      · rw [List.mem_singleton.mp z]; exact hq
  · obtain ⟨c, o3, o4, rfl, rfl, hcl, hg⟩ := inv
    have hm1 : (p, OV.pu) ∈ [(p, OV.pu)] := List.mem_cons_self
    refine rn_freeze 2 rfl (rn_ret (A := fun v => ∃ c bk, v = .d (cabD c bk) ∧ GoodC c bk) (ev_tup2N (ed_tupleL T.b_tuple (ev_v 2)) (ef_low (C := fun r => 0 ≤ r ∧ r.num ≤ 999 ∧ r.den ≤ 999) T hr (by decide) (vi_pick T hr (by decide) hm1 (ev_v 0) (ei_of ed_int) (hpk 30 (by decide) (by decide))) (vi_add (ei_of ed_int) (vi_pick T hr (by decide) hm1 (ev_v 0) (ei_of ed_int) (hpk 3 (by decide) (by decide))))
      (fun m n ⟨n1, e1, h1, h2⟩ ⟨i, j, e2, ⟨n2, e3, h3, h4⟩, e4⟩ => by subst e1 e2 e3 e4; exact back_low h1 h2 (by omega) (by omega))) (fun x y hx ⟨r, hy, hq⟩ => ⟨_, _, hx, hy, c, r, rfl, ⟨by omega, by omega, hg, hq.1, hq.2.1, hq.2.2⟩⟩)) fun a ⟨c, bk, e, h⟩ => ⟨rfl, _, e, c, bk, rfl, h⟩)
theorem d__law_sixths (T : Tx K mg) : Df P w K mg base 2 "_law_sixths" Rsix := df_mk (N := ["_law_purse_here", "_law_cable_here", "_law_steps", "_law_way", "_law_part"]) (ps := ["_law_purse_here", "_law_cable_here"]) T.f__law_sixths ⟨rfl, rfl, rfl, by decide +kernel, rfl, by decide +kernel, by decide +kernel⟩ (fun _ _ _ _ _ _ us hl => match us, hl with | [_, _], _ => rfl) (fun O as B h => by obtain ⟨_, _, _, _, rfl, _⟩ := h; rfl) fun f cdv A outer s H E hr O as B h => by
  obtain ⟨p, c, bk, rfl, rfl, hc, rfl⟩ := h
  have nd : (["_law_purse_here", "_law_cable_here", "_law_steps", "_law_way", "_law_part"] : List Str).Nodup := by decide +kernel
  have hl3 := hc.len3
  have hst := steps_le hc
  have hm : (p, OV.pu) ∈ [(p, OV.pu)] := List.mem_cons_self
  have hpk : ∀ (k : Int), 0 < k → k < 100000 → ∀ n, n = k → 0 < n ∧ Sm 60 n.natAbs := fun k h0 h1 n e => by subst e; exact ⟨h0, ⟨by omega⟩⟩
  refine rn_setLc (hsw := sw_true rfl rfl rfl (by decide +kernel)) (own := [("_law_part", 4)]) (ys := (ni c).map PyData.int) 2 rfl nd (iw_tup (ed_ixT (ev_v 1) ed_int)) (fun _ h => (nomatch h)) (blkOk_by (N := ["_law_purse_here", "_law_cable_here", "_law_steps", "_law_way", "_law_part"]) (sc := defScope (topS 75)) (by decide +kernel)) (tb_name 4 nd (fun _ _ _ _ _ => (pg_name (i := 4) nd rfl (Or.inl rfl)))) (fun _ _ => True.intro) ?_ ?_ (fun ci cx cy hcx hcy _ _ _ _ _ => ?_) ?_
  · rw [List.length_map, List.length_map, List.length_map]
  · rw [List.length_map]; omega
  · obtain ⟨l, e1, rfl⟩ := map_at hcx
    rw [List.map_map] at hcy
    obtain ⟨l2, e2, rfl⟩ := map_at hcy
    rw [e1] at e2
    cases e2
    exact (ed_ixT (ev_v 4) ed_int)
  have fin : ∀ v : AV, (∃ k : Int, v = .d (.int k) ∧ ∃ n : Nat, k = (n : Int) ∧ n ≤ 6 * stepsC c) → [(p, OV.pu)] = [(p, OV.pu)] ∧ ∃ d, v = .d d ∧ ∃ n : Nat, d = .int (n : Nat) ∧ n ≤ 6 * stepsC c := fun v ⟨k, e, n, e2, hn⟩ => ⟨rfl, _, e, n, by rw [e2], hn⟩
  refine rn_set 3 (vi_pick T hr (by decide) hm (ev_v 0) (ei_of ed_int) (hpk 5 (by decide) (by decide))) (fun a ha => ?_) nd
  obtain ⟨way, rfl, n5, e5, w0, w1⟩ := ha
  refine rn_ifR (et_eqI (ev_v 3) ed_int) (fun _ => ?_) fun _ => ?_
  · refine rn_ret (ei_mul (C := fun k => ∃ n : Nat, k = (n : Int) ∧ n ≤ 6 * stepsC c) (ei_of (ed_mul ed_int (ed_to (y := .int (stepsC c : Nat)) (ed_sum (ns := ni c) rfl T.b_sum (ev_v 2)) (by rw [steps_int])) ?_)) (vi_pick T hr (by decide) hm (ev_v 0) (ei_of ed_int) (hpk 2 (by decide) (by decide))) (fun i j hi ⟨n, e, h0, h1⟩ => ?_)) fun a z => fin a z
    · exact cm (m := 4) (n := 20) ⟨by decide⟩ ⟨by omega⟩
    · subst e hi
      refine ⟨cm (m := 20) (n := 2) ⟨by omega⟩ ⟨by omega⟩, ?_⟩
      rcases (show j = 0 ∨ j = 1 by omega) with rfl | rfl
      · exact ⟨0, by omega, by omega⟩
      · exact ⟨6 * stepsC c, by omega, by omega⟩
  refine rn_ifR (et_eqI (ev_v 3) ed_int) (fun _ => ?_) fun _ => ?_
  · refine rn_ret (ei_mul (C := fun k => ∃ n : Nat, k = (n : Int) ∧ n ≤ 6 * stepsC c) (ei_of ed_int) (ei_sum (A := fun _ => True) (C := fun k => ∃ n : Nat, k = (n : Int) ∧ n ≤ stepsC c) rfl T.b_sum (ev_cutLN (ev_v 2) (vi_pick T hr (by decide) hm (ev_v 0) (ei_of (ed_add (ed_len T.b_len (ev_v 2) (.inl rfl)) ed_int)) (fun n e => ?_)) (fun i hi => ?_))) (fun i j hi ⟨n, e, h1⟩ => ?_)) fun a z => fin a z
    · subst e
      rw [List.length_map, List.length_map]
      exact ⟨by omega, ⟨by omega⟩⟩
    · obtain ⟨m, hcut⟩ := cut_take PyData.int (ni c) i
      exact ⟨(ni c).take m, by rw [hcut], steps_take c m⟩
    · subst e hi
      exact ⟨cm (m := 4) (n := 20) ⟨by decide⟩ ⟨by omega⟩, 6 * n, by omega, by omega⟩
  · refine rn_ret (ei_imp (B := fun k => ∃ n : Nat, k = (n : Int) ∧ n ≤ 6 * stepsC c) (vi_pick T hr (by decide) hm (ev_v 0) (ei_of (ed_add (ed_mul ed_int (ed_to (y := .int (stepsC c : Nat)) (ed_sum (ns := ni c) rfl T.b_sum (ev_v 2)) (by rw [steps_int])) ?_) ed_int)) (fun n e => ?_)) (fun k ⟨n, e, h0, h1⟩ => ?_)) fun a z => fin a z
    · exact cm (m := 4) (n := 20) ⟨by decide⟩ ⟨by omega⟩
    · subst e
      exact ⟨by omega, ⟨by omega⟩⟩
    · subst e
      exact ⟨k.toNat, by omega, by omega⟩
end
section
variable {X : Cx} {O : OS} {ds : AS} {e a b c : Expr} {es : List Expr} {pos : Pos}
theorem vi_six {p : Addr} {cb : List Ln} {bk : Rat} {j : Nat} {p1 : Pos} (T : Tx X.K X.mg) (hr : Room j X.A) (hk : 2 ≤ j) (hc : GoodC cb bk) (hm : (p, OV.pu) ∈ O) (ha : Ev X O a ds (· = .own p)) (hb : Ed X O b ds (cabD cb bk)) (hg : Gl X "_law_sixths" := by rfl)
    (h1 : starEach (a :: [b]) X.env = (false, eval a X.env) :: starEach [b] X.env := by rfl) (h2 : starEach (b :: []) X.env = (false, eval b X.env) :: starEach [] X.env := by rfl) (hpl : (backTo pos (starEach [b] X.env)).any (·.1) = false := by rfl) :
    EvI X O (.Call (.Name "_law_sixths" p1) [a, b] [] pos) ds (fun k => ∃ n : Nat, k = (n : Int) ∧ n ≤ 6 * stepsC cb) :=
  ev_call (d__law_sixths T) hr hk (ea_cons ha (ea_cons hb ea_nil h2) h1) (fun as e => ⟨[(p, .pu)], fun r => ∃ n : Nat, r = .int (n : Nat) ∧ n ≤ 6 * stepsC cb, ⟨p, cb, bk, rfl, e, hc, rfl⟩, subO_one hm, fun d ⟨n, e, hn⟩ => ⟨n, by rw [e], n, rfl, hn⟩⟩) hg (by decide) h1 hpl
end
end Ea

namespace Ea
open PySem PySem.Spec PyProof.Rows L2
/-! ### leaks and places of the law's purse -/
structure PlS (c : List Ln) (x : Rat) : Prop where
  x0 : 0 ≤ x
  x1 : x ≤ ((stepsC c : Nat) : Rat)
  sx : Sz 4000 x
  d36 : ∃ k : Nat, dragC c x * 36 = (k : Rat)
theorem LkS.pl {c : List Ln} {l : Rat × Rat} (h : LkS c l) : PlS c l.1 := ⟨h.x0, h.x1, h.sx, h.d36⟩
theorem PlS.sn {c : List Ln} {bk x : Rat} (hc : GoodC c bk) (h : PlS c x) : Sz 20 (dragC c x) := by
  have b := dragC_bd c x hc.all h.x0
  exact sz_36 hc b.1 b.2 h.d36
theorem six_ok {c : List Ln} {bk : Rat} {n : Nat} (hc : GoodC c bk) (h : n ≤ 6 * stepsC c) : PlS c (Rat.divInt (n : Int) 6) := by
  have hs := steps_le hc
  have e := divInt_mul (i := (n : Int)) (j := 6) (by decide)
  rw [Rat.intCast_natCast] at e
  have e6 : ((6 : Nat) : Rat) = 6 := rfl
  have h2 : ((n : Nat) : Rat) ≤ ((6 * stepsC c : Nat) : Rat) := Rat.natCast_le_natCast.mpr h
  rw [Rat.natCast_mul, e6] at h2
  have e' : Rat.divInt (n : Int) 6 * 6 = (n : Rat) := e
  refine ⟨divInt_nn (i := n) (j := 6) (by decide), by grind, (divInt_sz (i := n) (j := 6) (n := 20) (by decide) (by omega) (by decide)).mono (by decide), drag_36 c _ hc.all ⟨n, e'⟩⟩
theorem nat_ok {c : List Ln} {bk : Rat} {n : Nat} (hc : GoodC c bk) (h : n ≤ stepsC c) : PlS c (n : Rat) := by
  have hs := steps_le hc
  refine ⟨nn0 n, Rat.natCast_le_natCast.mpr h, (sz_nat (n := 20) ⟨by omega⟩ ⟨by decide⟩).mono (by decide), drag_36 c _ hc.all ⟨n * 6, ?_⟩⟩
  rw [Rat.natCast_mul]
  rfl
theorem sz_half : Sz 2 (1 / 2 : Rat) := sz_of 1 2 (by decide) (by decide +kernel) ⟨by decide⟩ ⟨by decide⟩
theorem mid_ok {c : List Ln} {bk : Rat} (hc : GoodC c bk) : PlS c (placeC c (wholeC c * (1 / 2))) := by
  have hw := wholeC_nn c hc.all
  have h0 : 0 ≤ wholeC c * (1 / 2) := by grind
  have h1 : wholeC c * (1 / 2) ≤ wholeC c := by grind
  have b := placeC_bd c _ hc.all h0 h1
  have e := dragC_placeC c _ hc.all h0 h1
  have sh : Sz 22 (wholeC c * (1 / 2)) := hc.szW.mul sz_half
  refine ⟨b.1, b.2, (sz_placeC c _ 22 hc.all sh).mono (by have := hc.len3; omega), ?_⟩
  rw [e]
  obtain ⟨m, em, _⟩ := whole_six c hc.all
  refine ⟨m * 3, ?_⟩
  rw [Rat.natCast_mul]
  have : ((3 : Nat) : Rat) = 3 := rfl
  grind
theorem drag_ok {m n : Int} (m1 : 1 ≤ m) (m2 : m ≤ 60) (hn : n = 1 ∨ n = 2 ∨ n = 7) : n ≠ 0 ∧ Sm 9000 n.natAbs ∧ (0 < Rat.divInt m n ∧ Sz 6 (Rat.divInt m n)) := by
  obtain ⟨a, rfl⟩ : ∃ a : Nat, m = a := ⟨m.toNat, by omega⟩
  obtain ⟨b, rfl⟩ : ∃ b : Nat, n = b := ⟨n.toNat, by omega⟩
  exact ⟨by omega, Sm.mono (m := 4) ⟨by rw [Int.natAbs_natCast]; omega⟩ (by decide), divInt_pos (by omega) (by omega), divInt_sz (by omega) (by omega) (by omega)⟩
/-- the leaks as the dict holds them -/
abbrev SL := List (Nat × Rat)
abbrev kvD (ns : SL) : List (Key × PyData) := ns.map fun z => (.inl (z.1 : Int), fr z.2)
structure SlOk (c : List Ln) (ns : SL) : Prop where
  nd : (ns.map (·.1)).Nodup
  ok : ∀ z ∈ ns, z.1 ≤ 6 * stepsC c ∧ 0 < z.2 ∧ Sz 6 z.2
theorem put_ok {c : List Ln} {ns : SL} {n : Nat} {q : Rat} (h : SlOk c ns) (hl : ns.length ≤ 1) (hn : n ≤ 6 * stepsC c) (q0 : 0 < q) (sq : Sz 6 q) : ∃ ns', putP (kvD ns) (.inl (n : Int)) (fr q) = kvD ns' ∧ SlOk c ns' ∧ ns'.length ≤ ns.length + 1 := by
  match ns, hl, h with
  | [], _, _ => exact ⟨[(n, q)], rfl, ⟨by simp, fun z hz => by rw [List.mem_singleton.mp hz]; exact ⟨hn, q0, sq⟩⟩, Nat.le_refl _⟩
  | [z], _, h =>
    by_cases e : z.1 = n
    · refine ⟨[(n, q)], ?_, ⟨by simp, fun z hz => by rw [List.mem_singleton.mp hz]; exact ⟨hn, q0, sq⟩⟩, by simp⟩
      subst e
      simp [putP, kvD]
    · refine ⟨[z, (n, q)], ?_, ⟨by simp [e], fun y hy => ?_⟩, by simp⟩
      · have e2 : ((z.1 : Nat) : Int) ≠ (n : Int) := by omega
        simp [putP, kvD, e2]
      · rcases List.mem_cons.mp hy with r | r
        · rw [r]; exact h.ok z List.mem_cons_self
        · rw [List.mem_singleton.mp r]; exact ⟨hn, q0, sq⟩
def srtN : SL → SL
  | [y, z] => if y.1 ≤ z.1 then [y, z] else [z, y]
  | ns => ns
theorem srtN_mem {ns : SL} {z : Nat × Rat} : z ∈ srtN ns ↔ z ∈ ns := by
  unfold srtN
  split
  · split
    · exact Iff.rfl
    · simp [or_comm]
  · exact Iff.rfl
theorem srtN_len (ns : SL) : (srtN ns).length = ns.length := by
  unfold srtN
  split
  · split <;> rfl
  · rfl
theorem perm2 {α : Type} {a b : α} {ys : List α} (h : ys.Perm [a, b]) : ys = [a, b] ∨ ys = [b, a] := by
  match ys, h with
  | [], h => exact absurd h.length_eq (by simp)
  | [x], h => exact absurd h.length_eq (by simp)
  | [x, y], h =>
    have hx : x ∈ [a, b] := h.mem_iff.mp List.mem_cons_self
    rcases List.mem_cons.mp hx with e | e
    · subst e
      have := (List.perm_cons x).mp h
      have e2 := List.perm_singleton.mp this
      rw [e2]; exact .inl rfl
    · have e' := List.mem_singleton.mp e
      subst e'
      have h2 : [x, y].Perm [x, a] := h.trans (List.Perm.swap _ _ _)
      have := (List.perm_cons x).mp h2
      have e2 := List.perm_singleton.mp this
      rw [e2]; exact .inr rfl
  | _ :: _ :: _ :: _, h => exact absurd h.length_eq (by simp)
theorem srtN_is {ns : SL} (hl : ns.length ≤ 2) {ys : List Int} (h : ys.Perm (ns.map fun z => ((z.1 : Nat) : Int))) (hs : ys.Pairwise (· ≤ ·)) : ys = (srtN ns).map fun z => ((z.1 : Nat) : Int) := by
  match ns, hl, h with
  | [], _, h => exact List.perm_nil.mp h
  | [z], _, h => exact List.perm_singleton.mp h
  | [y, z], _, h =>
    unfold srtN
    rcases perm2 h with e | e
    · subst e
      have : ((y.1 : Nat) : Int) ≤ (z.1 : Int) := (List.pairwise_cons.mp hs).1 _ List.mem_cons_self
      have h2 : y.1 ≤ z.1 := by omega
      show _ = List.map _ (if y.1 ≤ z.1 then [y, z] else [z, y])
      rw [if_pos h2]; rfl
    · subst e
      have : ((z.1 : Nat) : Int) ≤ (y.1 : Int) := (List.pairwise_cons.mp hs).1 _ List.mem_cons_self
      have h2 : z.1 ≤ y.1 := by omega
      show _ = List.map _ (if y.1 ≤ z.1 then [y, z] else [z, y])
      by_cases h3 : y.1 ≤ z.1
      · rw [if_pos h3]
        have : y.1 = z.1 := by omega
        show [((z.1 : Nat) : Int), ((y.1 : Nat) : Int)] = [((y.1 : Nat) : Int), ((z.1 : Nat) : Int)]
        rw [this]
      · rw [if_neg h3]; rfl
def lkN (ns : SL) : List (Rat × Rat) := (srtN ns).map fun z => (Rat.divInt (z.1 : Int) 6, z.2)
theorem lkN_len (ns : SL) : (lkN ns).length = ns.length := by unfold lkN; rw [List.length_map, srtN_len]
theorem div6_le {m n : Nat} (h : m ≤ n) : Rat.divInt (m : Int) 6 ≤ Rat.divInt (n : Int) 6 := by
  have e1 : Rat.divInt (m : Int) 6 * 6 = ((m : Int) : Rat) := divInt_mul (i := (m : Int)) (j := 6) (by decide)
  have e2 : Rat.divInt (n : Int) 6 * 6 = ((n : Int) : Rat) := divInt_mul (i := (n : Int)) (j := 6) (by decide)
  have h2 : ((m : Int) : Rat) ≤ ((n : Int) : Rat) := Rat.intCast_le_intCast.mpr (by omega)
  grind
theorem lkN_ord {ns : SL} (hl : ns.length ≤ 2) : (lkN ns).Pairwise fun p q => p.1 ≤ q.1 := by
  match ns, hl with
  | [], _ => exact List.Pairwise.nil
  | [z], _ => exact List.pairwise_singleton _ _
  | [y, z], _ =>
    unfold lkN srtN
    show List.Pairwise _ (List.map _ (if y.1 ≤ z.1 then [y, z] else [z, y]))
    by_cases h : y.1 ≤ z.1
    · rw [if_pos h]
      have := div6_le h
      simp [this]
    · rw [if_neg h]
      have := div6_le (show z.1 ≤ y.1 by omega)
      simp [this]
theorem lkN_ok {c : List Ln} {bk : Rat} {ns : SL} (hc : GoodC c bk) (h : SlOk c ns) : ∀ l ∈ lkN ns, LkS c l := fun l hl => by
  obtain ⟨z, hz, rfl⟩ := List.mem_map.mp hl
  obtain ⟨h1, h2, h3⟩ := h.ok z (srtN_mem.mp hz)
  have p := six_ok hc h1
  exact ⟨p.x0, p.x1, p.sx, h2, h3, p.d36⟩
theorem val_at {ns : SL} (h : (ns.map (·.1)).Nodup) (hl : ns.length ≤ 2) {z : Nat × Rat} (hz : z ∈ ns) : valP (kvD ns) (.inl (z.1 : Int)) = some (fr z.2) := by
  match ns, hl, h with
  | [], _, _ => cases hz
  | [y], _, _ =>
    rw [List.mem_singleton.mp hz]
    simp [valP, kvD]
  | [y, y2], _, h =>
    have hne : y.1 ≠ y2.1 := by simpa using h
    rcases List.mem_cons.mp hz with e | e
    · rw [e]; simp [valP, kvD]
    · rw [List.mem_singleton.mp e]
      have h3 : ¬ (((y.1 : Nat) : Int) = (y2.1 : Int)) := by omega
      simp [valP, kvD, h3]
theorem steps_take2 (c : List Ln) (m : Nat) : ((ni c).take m).sum = ((stepsC (c.take m) : Nat) : Int) ∧ stepsC (c.take m) ≤ stepsC c := by
  refine ⟨by rw [← steps_int, List.map_take], ?_⟩
  have h : stepsC c = stepsC (c.take m) + stepsC (c.drop m) := by
    have e := congrArg stepsC (List.take_append_drop m c)
    rw [← e]
    unfold stepsC
    rw [List.map_append, List.sum_append]
  omega
noncomputable def cutM (c : List Ln) (i : Int) : Nat := Classical.choose (cut_take PyData.int (ni c) i)
theorem cutM_eq (c : List Ln) (i : Int) : cutL ((ni c).map PyData.int) none (some i) = ((ni c).take (cutM c i)).map PyData.int := Classical.choose_spec (cut_take PyData.int (ni c) i)
noncomputable abbrev starts (c : List Ln) : List Rat := (List.range (c.length + 1)).map fun k => ((stepsC (c.take (cutM c (k : Nat))) : Nat) : Rat)
def Rlks : RF := fun O as B => ∃ (p : Addr) (c : List Ln) (bk : Rat), O = [(p, .pu)] ∧ as = [.own p, .d (cabD c bk), .d (.int 2)] ∧ GoodC c bk ∧ B = fun r => ∃ ls, r = lksT ls ∧ ls.length ≤ 2 ∧ (∀ l ∈ ls, LkS c l) ∧ ls.Pairwise fun p q => p.1 ≤ q.1
def Rlk1 : RF := fun O as B => ∃ (p : Addr) (c : List Ln) (bk : Rat), O = [(p, .pu)] ∧ as = [.own p, .d (cabD c bk)] ∧ GoodC c bk ∧ B = fun r => ∃ l, r = lkD l ∧ LkS c l
def Rpls : RF := fun O as B => ∃ (p : Addr) (c : List Ln) (bk : Rat) (ls : List (Rat × Rat)), O = [(p, .pu)] ∧ as = [.own p, .d (cabD c bk), .d (lksT ls)] ∧ GoodC c bk ∧ ls.length ≤ 3 ∧ (∀ l ∈ ls, LkS c l) ∧ B = fun r => ∃ xs, r = lstF xs ∧ xs.length ≤ 1000 ∧ ∀ x ∈ xs, PlS c x
section
variable {P : Program} {w : World} {K : PySem.W.Frag} {mg : Str → Option Value} {base : Heap}
theorem d__law_leaks (T : Tx K mg) : Df P w K mg base 3 "_law_leaks" Rlks := df_mk2 (N := ["_law_purse_here", "_law_cable_here", "_law_many", "_law_found", "_law_k", "_law_at"]) (ps := ["_law_purse_here", "_law_cable_here", "_law_many"]) T.f__law_leaks ⟨rfl, rfl, rfl, by decide +kernel, rfl, by decide +kernel, by decide +kernel⟩ (fun _ _ _ _ _ _ us hl => match us, hl with | [_, _, _], _ => rfl) (fun O as B h => by obtain ⟨_, _, _, _, rfl, _⟩ := h; rfl) fun f cdv A outer s H E hr O as B h => by
  obtain ⟨p, c, bk, rfl, rfl, hc, rfl⟩ := h
  have nd : (["_law_purse_here", "_law_cable_here", "_law_many", "_law_found", "_law_k", "_law_at"] : List Str).Nodup := by decide +kernel
  refine rn_ownD 3 (fun q => ?_) nd
  have hm : ∀ xs, (p, OV.pu) ∈ [(q, OV.dk xs), (p, .pu)] := fun _ => List.mem_cons_of_mem _ List.mem_cons_self
  have hpk : ∀ (k : Int), 0 < k → k < 10000 → ∀ n, n = k → 0 < n ∧ Sm 60 n.natAbs := fun k h0 h1 n e => by subst e; exact ⟨h0, ⟨by omega⟩⟩
  refine rn_forR (A := fun n => 0 ≤ n ∧ n ≤ 2) T.b_range (ei_imp (vi_pick T hr (by decide) (hm []) (ev_v 0) (ei_imp (B := (· = 3)) (ei_of (ed_add (ev_v 2) ed_int)) (fun n e => by subst e; decide)) (hpk 3 (by decide) (by decide))) (fun k ⟨n, e2, h1, h2⟩ => by subst e2; omega)) (fun i hi => by omega)
    (fun n i O' ds => ∃ (ns : SL) (o4 o5 : Option AV), O' = [(q, .dk (kvD ns)), (p, .pu)] ∧ ds = [some (.own p), some (.d (cabD c bk)), some (.d (.int 2)), some (.own q), o4, o5] ∧ ns.length ≤ i ∧ SlOk c ns) PassesOwn.never rfl (fun n _ => ⟨[], none, none, rfl, rfl, Nat.le_refl _, ⟨List.nodup_nil, fun _ h => nomatch h⟩⟩) (fun n i O' ds' hA hi hO inv => ?_) (fun n O' ds' hA hO inv => ?_)
  · obtain ⟨ns, o4, o5, rfl, rfl, hl, ho⟩ := inv
    refine ⟨_, tg_name 4 nd, rn_dput (A := fun v => ∃ r, v = .d (fr r) ∧ (0 < r ∧ Sz 6 r)) (B := fun v => ∃ k : Int, v = .d (.int k) ∧ ∃ n : Nat, k = (n : Int) ∧ n ≤ 6 * stepsC c) hr (ef_low (A := fun m => 1 ≤ m ∧ m ≤ 60) (B := fun n => n = 1 ∨ n = 2 ∨ n = 7) T hr (by decide) (ei_imp (vi_add (ei_of ed_int) (vi_pick T hr (by decide) (hm _) (ev_v 0) (ei_of ed_int) (hpk 60 (by decide) (by decide)))) (fun m ⟨i, j, e1, ⟨n, e2, h1, h2⟩, e3⟩ => by subst e1 e2 e3; omega))
      (ei_imp (vi_ix (ed_lst4 ed_int ed_int ed_int ed_int) (vi_pick T hr (by decide) (hm _) (ev_v 0) (ei_of ed_int) (hpk 4 (by decide) (by decide))) (fun i ⟨n, e, h0, h1⟩ => by subst e; exact at4e h0 h1)) (fun n ⟨i, ⟨n', e, h0, h1⟩, ha⟩ => by subst e; rcases at4 h0 h1 ha with rfl | rfl | rfl | rfl <;> omega))
      (fun m n hm hn => drag_ok hm.1 hm.2 hn)) (ev_v 3) (vi_six T hr (by decide) hc (hm _) (ev_v 0) (ev_v 1)) (by rw [List.length_map]; omega) (fun x y ⟨r, ex, r0, sr⟩ ⟨k, ey, m, ek, hm2⟩ => ?_)⟩
    subst ek
    obtain ⟨ns', e1, e2, e3⟩ := put_ok ho (by omega) hm2 r0 sr
    refine ⟨_, .inl (m : Int), ex, ey, rn_nil ⟨rfl, ns', _, _, by rw [e1], rfl, by omega, e2⟩⟩
  · obtain ⟨ns, o4, o5, rfl, rfl, hl, ho⟩ := inv
    have hl2 : ns.length ≤ 2 := by omega
    have md : (q, OV.dk (kvD ns)) ∈ [(q, OV.dk (kvD ns)), (p, .pu)] ∨ ∃ o us, (q, OV.dl o us (kvD ns)) ∈ [(q, OV.dk (kvD ns)), (p, .pu)] := .inl List.mem_cons_self
    refine rn_ret (he := ed_tupleL (xs := (lkN ns).map lkD) T.b_tuple (ed_lc (own := [("_law_at", 5)]) rfl nd (iw_list (xs := (srtN ns).map fun z => PyData.int (z.1 : Nat)) (Ev.imp (ev_sortedI (ns := ns.map fun z => ((z.1 : Nat) : Int)) rfl T.b_sorted (ev_v 3) List.mem_cons_self (by rw [List.map_map, List.map_map]; rfl) (by rw [List.length_map]; omega)) (fun a ⟨ys, hp, hs, e⟩ => by rw [e, srtN_is hl2 hp hs, List.map_map]; rfl))) (fun _ h => (nomatch h)) (blkOk_by (N := ["_law_purse_here", "_law_cable_here", "_law_many", "_law_found", "_law_k", "_law_at"]) (sc := defScope (topS 76)) (by decide +kernel)) (tb_name 5 nd (fun _ _ _ _ _ => (pg_name (i := 5) nd rfl (Or.inl rfl)))) (fun _ _ => True.intro) ?_ ?_ (fun ci cx cy hcx hcy _ _ _ _ _ => ?_))) fun a z => ⟨fun z hz => List.mem_cons_of_mem _ hz, _, z, lkN ns, rfl, by rw [lkN_len]; exact hl2, lkN_ok hc ho, lkN_ord hl2⟩
    · rw [List.length_map, List.length_map, lkN_len, srtN_len]
    · rw [List.length_map, srtN_len]; omega
    · obtain ⟨z, e1, rfl⟩ := map_at hcx
      unfold lkN at hcy
      rw [List.map_map] at hcy
      obtain ⟨z2, e2, rfl⟩ := map_at hcy
      rw [e1] at e2
      cases e2
      have hz := srtN_mem.mp (List.mem_of_getElem? e1)
      refine ed_tup2 (ed_call (d__law_low T) hr (by decide) (ea_cons (ev_v 5) (ea_cons ed_int ea_nil)) (r__law_low (by decide) ⟨?_⟩)) (ed_dgetI hr (ev_v 3) (ev_v 5) md (val_at ho.nd hl2 hz))
      exact Nat.lt_of_lt_of_le (show (6 : Int).natAbs < 2 ^ 4 by decide) (Nat.pow_le_pow_right (by decide) (by decide))
theorem d__law_leak (T : Tx K mg) : Df P w K mg base 4 "_law_leak" Rlk1 := df_mk (N := ["_law_purse_here", "_law_cable_here", "_law_place"]) (ps := ["_law_purse_here", "_law_cable_here"]) T.f__law_leak ⟨rfl, rfl, rfl, by decide +kernel, rfl, by decide +kernel, by decide +kernel⟩ (fun _ _ _ _ _ _ us hl => match us, hl with | [_, _], _ => rfl) (fun O as B h => by obtain ⟨_, _, _, _, rfl, _⟩ := h; rfl) fun f cdv A outer s H E hr O as B h => by
  obtain ⟨p, c, bk, rfl, rfl, hc, rfl⟩ := h
  have nd : (["_law_purse_here", "_law_cable_here", "_law_place"] : List Str).Nodup := by decide +kernel
  have hm : (p, OV.pu) ∈ [(p, OV.pu)] := List.mem_cons_self
  have hpk : ∀ (k : Int), 0 < k → k < 10000 → ∀ n, n = k → 0 < n ∧ Sm 60 n.natAbs := fun k h0 h1 n e => by subst e; exact ⟨h0, ⟨by omega⟩⟩
  refine rn_set 2 (ef_low (C := PlS c) T hr (by decide) (vi_six T hr (by decide) hc hm (ev_v 0) (ev_v 1)) (ei_of ed_int) (fun m n ⟨k, e1, hk⟩ e2 => by subst e1 e2; exact ⟨by decide, Sm.mono (m := 4) ⟨by decide⟩ (by decide), six_ok hc hk⟩)) (fun a ha => ?_) nd
  obtain ⟨x, rfl, hx⟩ := ha
  refine rn_ifN (eb_eq (vi_pick T hr (by decide) hm (ev_v 0) (ei_of ed_int) (hpk 5 (by decide) (by decide))) (ei_of ed_int)) (rn_setd 2 (ed_call (d__law_place_at T) hr (by decide) (ea_cons (ev_v 1) (ea_cons (ed_call (d__law_times T) hr (by decide) (ea_cons (ed_call (d__law_all T) hr (by decide) (ea_cons (ev_v 1) ea_nil) (r__law_all ?_)) (ea_cons (ed_halfF (ed_tup2 ed_int ed_int)) ea_nil)) (r__law_times ?_ ?_)) ea_nil)) (r__law_place_at ?_ ?_)) (rn_nil ⟨fun _ h => h, ?_⟩) nd) (rn_nil ⟨fun _ h => h, ?_⟩)
  · exact hc
  · exact hc.szW.mono (by decide)
  · exact sz_half.mono (by decide)
  · exact hc
  · exact (hc.szW.mul sz_half).mono (by decide)
  · have hx := mid_ok hc
    exact rn_ret (A := fun v => ∃ l, v = .d (lkD l) ∧ LkS c l) (ev_tup2N (ev_v 2) (ef_low (C := fun r => 0 < r ∧ Sz 6 r) (A := fun m => 1 ≤ m ∧ m ≤ 60) (B := fun n => n = 1 ∨ n = 2 ∨ n = 7) T hr (by decide) (ei_imp (vi_add (ei_of ed_int) (vi_pick T hr (by decide) hm (ev_v 0) (ei_of ed_int) (hpk 60 (by decide) (by decide)))) (fun m ⟨i, j, e1, ⟨n, e2, h1, h2⟩, e3⟩ => by subst e1 e2 e3; omega))
      (ei_imp (vi_ix (ed_lst4 ed_int ed_int ed_int ed_int) (vi_pick T hr (by decide) hm (ev_v 0) (ei_of ed_int) (hpk 4 (by decide) (by decide))) (fun i ⟨n, e, h0, h1⟩ => by subst e; exact at4e h0 h1)) (fun n ⟨i, ⟨n', e, h0, h1⟩, ha⟩ => by subst e; rcases at4 h0 h1 ha with rfl | rfl | rfl | rfl <;> omega))
      (fun m n hm hn => drag_ok hm.1 hm.2 hn)) (fun u v hu ⟨r, hv, r0, sr⟩ => ⟨_, _, hu, hv, (placeC c (wholeC c * (1 / 2)), r), rfl, ⟨hx.x0, hx.x1, hx.sx, r0, sr, hx.d36⟩⟩)) fun a ⟨l, e, h⟩ => ⟨rfl, _, e, l, rfl, h⟩
  · exact rn_ret (A := fun v => ∃ l, v = .d (lkD l) ∧ LkS c l) (ev_tup2N (ev_v 2) (ef_low (C := fun r => 0 < r ∧ Sz 6 r) (A := fun m => 1 ≤ m ∧ m ≤ 60) (B := fun n => n = 1 ∨ n = 2 ∨ n = 7) T hr (by decide) (ei_imp (vi_add (ei_of ed_int) (vi_pick T hr (by decide) hm (ev_v 0) (ei_of ed_int) (hpk 60 (by decide) (by decide)))) (fun m ⟨i, j, e1, ⟨n, e2, h1, h2⟩, e3⟩ => by subst e1 e2 e3; omega))
      (ei_imp (vi_ix (ed_lst4 ed_int ed_int ed_int ed_int) (vi_pick T hr (by decide) hm (ev_v 0) (ei_of ed_int) (hpk 4 (by decide) (by decide))) (fun i ⟨n, e, h0, h1⟩ => by subst e; exact at4e h0 h1)) (fun n ⟨i, ⟨n', e, h0, h1⟩, ha⟩ => by subst e; rcases at4 h0 h1 ha with rfl | rfl | rfl | rfl <;> omega))
      (fun m n hm hn => drag_ok hm.1 hm.2 hn)) (fun u v hu ⟨r, hv, r0, sr⟩ => ⟨_, _, hu, hv, (x, r), rfl, ⟨hx.x0, hx.x1, hx.sx, r0, sr, hx.d36⟩⟩)) fun a ⟨l, e, h⟩ => ⟨rfl, _, e, l, rfl, h⟩
theorem d__law_places (T : Tx K mg) : Df P w K mg base 2 "_law_places" Rpls := df_mk (N := ["_law_purse_here", "_law_cable_here", "_law_leaks_here", "_law_steps", "_law_some", "_law_k", "_law_part", "_law_place", "_law_drag"]) (ps := ["_law_purse_here", "_law_cable_here", "_law_leaks_here"]) T.f__law_places ⟨rfl, rfl, rfl, by decide +kernel, rfl, by decide +kernel, by decide +kernel⟩ (fun _ _ _ _ _ _ us hl => match us, hl with | [_, _, _], _ => rfl) (fun O as B h => by obtain ⟨_, _, _, _, _, rfl, _⟩ := h; rfl) fun f cdv A outer s H E hr O as B h => by
  obtain ⟨p, c, bk, ls, rfl, rfl, hc, hll, hls, rfl⟩ := h
  have nd : (["_law_purse_here", "_law_cable_here", "_law_leaks_here", "_law_steps", "_law_some", "_law_k", "_law_part", "_law_place", "_law_drag"] : List Str).Nodup := by decide +kernel
  have hl3 := hc.len3
  have hst := steps_le hc
  refine rn_setd (d := .d (.list ((ni c).map PyData.int))) 3 (ed_lc (own := [("_law_part", 6)]) rfl nd (iw_tup (ed_ixT (ev_v 1) ed_int)) (fun _ h => (nomatch h)) (blkOk_by (N := ["_law_purse_here", "_law_cable_here", "_law_leaks_here", "_law_steps", "_law_some", "_law_k", "_law_part", "_law_place", "_law_drag"]) (sc := defScope (topS 79)) (by decide +kernel)) (tb_name 6 nd (fun _ _ _ _ _ => (pg_name (i := 6) nd rfl (Or.inl rfl)))) (fun _ _ => True.intro) ?_ ?_ (fun ci cx cy hcx hcy _ _ _ _ _ => ?_)) ?_ nd
  · rw [List.length_map, List.length_map, List.length_map]
  · rw [List.length_map]; omega
  · obtain ⟨l, e1, rfl⟩ := map_at hcx
    rw [List.map_map] at hcy
    obtain ⟨l2, e2, rfl⟩ := map_at hcy
    rw [e1] at e2
    cases e2
    exact (ed_ixT (ev_v 6) ed_int)
  refine rn_catOwn (xs := (starts c).map fr) (ys := (ls.map (·.1)).map fr) 4 (ev_lc (own := [("_law_k", 5)]) rfl nd (iw_range T.b_range (ed_add (ed_len T.b_len (ev_v 3) (.inl rfl)) ed_int) ?_) (fun _ h => (nomatch h)) (blkOk_by (N := ["_law_purse_here", "_law_cable_here", "_law_leaks_here", "_law_steps", "_law_some", "_law_k", "_law_part", "_law_place", "_law_drag"]) (sc := defScope (topS 79)) (by decide +kernel)) (tb_name 5 nd (fun _ _ _ _ _ => (pg_name (i := 5) nd rfl (Or.inl rfl)))) (fun _ _ => True.intro) ?_ ?_ (fun ci cx cy hcx hcy _ _ _ _ _ => ?_)) (ev_lc (own := [("_law_place", 7), ("_law_drag", 8)]) rfl nd (iw_tup (ev_v 2)) (fun _ h => (nomatch h)) (blkOk_by (N := ["_law_purse_here", "_law_cable_here", "_law_leaks_here", "_law_steps", "_law_some", "_law_k", "_law_part", "_law_place", "_law_drag"]) (sc := defScope (topS 79)) (by decide +kernel)) (tb_pair 7 8 (fun _ _ _ _ _ => pg_tup rfl (pgs_cons (pg_name (i := 7) nd rfl (Or.inl rfl)) (pgs_cons (pg_name (i := 8) nd rfl (Or.inl rfl)) pgs_nil)))) ?_ ?_ ?_ (fun ci cx cy hcx hcy _ _ _ _ _ => ?_)) ?_ (fun q => ?_) nd
  · rw [List.length_map, List.length_map]
    exact Nat.lt_of_le_of_lt (show c.length + 1 ≤ 4 by omega) (by decide)
  · rw [List.length_map, List.length_map, List.length_range]
    unfold upto
    rw [List.length_map, List.length_range, List.length_map, List.length_map]
  · unfold upto
    rw [List.length_map, List.length_range, List.length_map, List.length_map]
    exact Nat.le_trans (show c.length + 1 ≤ 4 by omega) (by decide)
  · unfold upto at hcx
    obtain ⟨k, e1, rfl⟩ := map_at hcx
    have hk := (List.getElem?_eq_some_iff.mp e1).2
    rw [List.getElem_range] at hk
    subst hk
    rw [List.map_map] at hcy
    obtain ⟨k2, e2, rfl⟩ := map_at hcy
    have hk2 := (List.getElem?_eq_some_iff.mp e2).2
    rw [List.getElem_range] at hk2
    subst hk2
    exact ed_natF (ed_tup2 (ed_to (ed_sum (ns := (ni c).take (cutM c (ci : Nat))) rfl T.b_sum (ed_to (ed_cutL (ev_v 3) (.inl ⟨rfl, rfl⟩) (.inr ⟨_, _, rfl, rfl, ev_v 5⟩)) (by rw [cutM_eq]))) (by rw [(steps_take2 c _).1])) ed_int)
  · intro x hx
    obtain ⟨l, _, rfl⟩ := List.mem_map.mp hx
    exact ⟨_, _, rfl⟩
  · rw [List.length_map, List.length_map, List.length_map]
  · rw [List.length_map]; omega
  · obtain ⟨l, e1, rfl⟩ := map_at hcx
    rw [List.map_map] at hcy
    obtain ⟨l2, e2, rfl⟩ := map_at hcy
    rw [e1] at e2
    cases e2
    exact ev_v 7
  · rw [List.length_map, List.length_map, List.length_range, List.length_map, List.length_map]; omega
  rw [← List.map_append]
  have hm : ∀ xs, (p, OV.pu) ∈ [(q, OV.li xs), (p, .pu)] := fun _ => List.mem_cons_of_mem _ List.mem_cons_self
  refine rn_for (fun i O' ds => ∃ (xs : List Rat) (o5 : Option AV), O' = [(q, .li (xs.map fr)), (p, .pu)] ∧ ds = [some (.own p), some (.d (cabD c bk)), some (.d (lksT ls)), some (.d (.list ((ni c).map PyData.int))), some (.own q), o5, none, none, none] ∧ xs.length ≤ 100 + i ∧ ∀ x ∈ xs, PlS c x) PassesOwn.never rfl (iw_range (n := 6) T.b_range ed_int (by decide)) ⟨starts c ++ ls.map (·.1), none, rfl, rfl, ?_, fun x hx => ?_⟩ (fun i y O' ds' hy hO inv => ?_) (fun O' ds' hO inv => ?_)
  · rw [List.length_append, List.length_map, List.length_range, List.length_map]; omega
  · rcases List.mem_append.mp hx with z | z
    · obtain ⟨k, _, rfl⟩ := List.mem_map.mp z
      exact nat_ok hc (steps_take2 c _).2
    · obtain ⟨l, hl, rfl⟩ := List.mem_map.mp z
      exact (hls l hl).pl
  · have hi := (List.getElem?_eq_some_iff.mp hy).1
    unfold upto at hy hi
    rw [List.length_map, List.length_range] at hi
    obtain ⟨k, _, rfl⟩ := map_at hy
    obtain ⟨xs, o5, rfl, rfl, hxl, hxs⟩ := inv
    refine ⟨_, tg_name 5 nd, rn_append (A := fun v => ∃ r, v = .d (fr r) ∧ PlS c r) (ev_v 4) (ef_low (C := PlS c) T hr (by decide) (vi_pick T hr (by decide) (hm _) (ev_v 0) (ei_imp (B := (· = 6 * ((stepsC c : Nat) : Int) + 1)) (ei_of (ed_add (ed_mul ed_int (ed_to (y := .int (stepsC c : Nat)) (ed_sum (ns := ni c) rfl T.b_sum (ev_v 3)) (by rw [steps_int])) ?_) ed_int)) (fun n e => e)) (fun n e => ?_)) (ei_of ed_int) (fun m n ⟨n1, e1, h0, h1⟩ e2 => ?_)) (by rw [List.length_map]; omega) (fun a ⟨r, e, h⟩ => ⟨_, e, rn_nil ⟨rfl, xs ++ [r], _, ?_, rfl, ?_, fun x hx => ?_⟩⟩)⟩
    · exact cm (m := 4) (n := 20) ⟨by decide⟩ ⟨by omega⟩
    · subst e
      exact ⟨by omega, ⟨by omega⟩⟩
    · subst e1 e2
      obtain ⟨k, rfl⟩ : ∃ k : Nat, m = k := ⟨m.toNat, by omega⟩
      exact ⟨by decide, Sm.mono (m := 4) ⟨by decide⟩ (by decide), six_ok hc (by omega)⟩
    · rw [List.map_append]; rfl
    · rw [List.length_append]
      show xs.length + 1 ≤ _
      omega
    · rcases List.mem_append.mp hx with z | z
      · exact hxs x z
      · rw [List.mem_singleton.mp z]; exact h
  · obtain ⟨xs, o5, rfl, rfl, hxl, hxs⟩ := inv
    unfold upto at hxl
    rw [List.length_map, List.length_range] at hxl
    exact rn_freeze 4 rfl (rn_ret (ev_v 4) fun a z => ⟨rfl, _, z, xs, rfl, by omega, hxs⟩)
end
end Ea

namespace Ea
open PySem PySem.Spec PyProof.Rows L2
/-! ### no other leak -/
abbrev dwC (c : List Ln) (u : W4) (x t : Rat) : Option Rat := dw u (near u (dragC c x) (wholeC c - dragC c x)) (far u (dragC c x) (wholeC c - dragC c x)) t
theorem dw_sz {w : W4} {nr fa t g : Rat} (h1 : Sz 41 nr) (h2 : Sz 41 fa) (h3 : Sz 80 t) (h : dw w nr fa t = some g) : Sz 200 g := by
  have hs : Sz 122 (t - nr) := (h3.sub h1).mono (by decide)
  unfold dw at h
  by_cases h0 : 0 < t - nr
  · rw [if_neg (fun z => z h0)] at h
    by_cases hw : w.free = true
    · rw [if_pos hw] at h; cases h; exact hs.mono (by decide)
    · rw [if_neg hw] at h
      by_cases h1 : t - nr < fa
      · rw [if_neg (fun z => z h1)] at h
        cases h
        exact (hs.gap h2 (fun z => by grind)).mono (by decide)
      · rw [if_pos h1] at h; cases h
  · rw [if_pos h0] at h; cases h
section
variable {c : List Ln} {bk x g t : Rat} {u w v : W4}
theorem far_f (hc : GoodC c bk) (hx : PlS c x) : 0 ≤ dragC c x ∧ 0 ≤ wholeC c - dragC c x := by
  have b := dragC_bd c x hc.all hx.x0
  exact ⟨b.1, by grind⟩
theorem dwC_sz (hc : GoodC c bk) (hx : PlS c x) (ht : Sz 80 t) (h : dwC c u x t = some g) : Sz 200 g := by
  have s1 := hx.sn hc
  have s2 := hc.szW.sub s1
  refine dw_sz ?_ ?_ ht h
  · unfold near; split
    · exact s2.mono (by decide)
    · exact s1.mono (by decide)
  · unfold far; split
    · exact s1.mono (by decide)
    · exact s2.mono (by decide)
theorem dwC_is (hc : GoodC c bk) (hx : PlS c x) (h : dwC c u x t = some g) : LeakC c x g ∧ rdC c u x g = t := by
  have b := far_f hc hx
  obtain ⟨h1, h2⟩ := dw_is b.1 b.2 h
  exact ⟨⟨hx.x0, hx.x1, h1⟩, h2⟩
theorem dwC_eq {g' : Rat} (hc : GoodC c bk) (hx : PlS c x) (h : dwC c u x t = some g) (g0 : 0 < g') (e : rdC c u x g' = t) : g = g' := by
  have b := far_f hc hx
  by_cases d : u.free = true ∨ 0 < far u (dragC c x) (wholeC c - dragC c x)
  · have h2 := dw_of b.1 b.2 g0 d
    have e2 : rd u (dragC c x) (wholeC c - dragC c x) g' = t := e
    rw [e2] at h2
    have h3 : dwC c u x t = some g' := h2
    rw [h] at h3
    exact Option.some.inj h3
  · have hf : u.free = false := by
      cases hq : u.free with
      | true => exact absurd (.inl hq) d
      | false => rfl
    have hz : far u (dragC c x) (wholeC c - dragC c x) = 0 := by
      have := far_nn (w := u) b.1 b.2
      have h1 : ¬ 0 < far u (dragC c x) (wholeC c - dragC c x) := fun z => d (.inr z)
      grind
    have h2 := dw_none b.1 b.2 g0 hf hz
    have e2 : rd u (dragC c x) (wholeC c - dragC c x) g' = t := e
    rw [e2] at h2
    have h3 : dwC c u x t = none := h2
    rw [h] at h3
    cases h3
theorem told_iff {r : W4 → Rat} (hc : GoodC c bk) (hwv : w ≠ v) (h : LeakC c x g) : oneLk c w v r = some (x, g) ↔ (rdC c w x g = r w ∧ rdC c v x g = r v) :=
  ⟨fun e => (one_sound hc e).2, fun e => one_complete hc h hwv e.1 e.2⟩
theorem drags_iff {r : W4 → Rat} {g1 g2 : Rat} (hc : GoodC c bk) (hwv : w ≠ v) (hx : PlS c x) (h1 : dwC c w x (r w) = some g1) (h2 : dwC c v x (r v) = some g2) : g1 = g2 ↔ oneLk c w v r = some (x, g1) := by
  obtain ⟨l1, e1⟩ := dwC_is hc hx h1
  obtain ⟨l2, e2⟩ := dwC_is hc hx h2
  rw [told_iff hc hwv l1]
  refine ⟨fun e => ⟨e1, by rw [e]; exact e2⟩, fun e => (dwC_eq hc hx h2 l1.g0 e.2).symm⟩
end
theorem eqv_t2 (a b a' b' : PyData) : PyData.eqv (.tuple [a, b]) (.tuple [a', b']) = (PyData.eqv a a' && PyData.eqv b b') := by simp [PyData.eqv, PyData.eqvAll]
theorem eqv_l2 (a b a' b' : PyData) : PyData.eqv (.list [a, b]) (.list [a', b']) = (PyData.eqv a a' && PyData.eqv b b') := by simp [PyData.eqv, PyData.eqvAll]
theorem eqv_nn : PyData.eqv .none .none = true := by simp [PyData.eqv]
theorem eqv_tn (xs : List PyData) : PyData.eqv (.tuple xs) .none = false := by simp [PyData.eqv]
theorem eqv_nt (xs : List PyData) : PyData.eqv .none (.tuple xs) = false := by simp [PyData.eqv]
theorem optL_eqv (a b : Option (Rat × Rat)) : PyData.eqv (optL a) (optL b) = decide (a = b) := by
  cases a with
  | none =>
    cases b with
    | none => rw [decide_eq_true rfl]; exact eqv_nn
    | some q => rw [decide_eq_false (fun z => nomatch z)]; exact eqv_nt _
  | some p =>
    cases b with
    | none => rw [decide_eq_false (fun z => nomatch z)]; exact eqv_tn _
    | some q =>
      show PyData.eqv (.tuple [fr p.1, fr p.2]) (.tuple [fr q.1, fr q.2]) = _
      rw [eqv_t2, fr_eqv, fr_eqv]
      by_cases h1 : p.1 = q.1
      · by_cases h2 : p.2 = q.2
        · have : p = q := Prod.ext h1 h2
          subst this; simp
        · rw [decide_eq_false h2, Bool.and_false, decide_eq_false]
          intro z; exact h2 (congrArg Prod.snd (Option.some.inj z))
      · rw [decide_eq_false h1, Bool.false_and, decide_eq_false]
        intro z; exact h1 (congrArg Prod.fst (Option.some.inj z))
theorem shp {d : PyData} (h1 : d.canLay0 = true) (h2 : d.depth ≤ 64) : SeqAt.shaped d = true := by
  show (d.canLay0 && decide (d.depth ≤ 64)) = true
  rw [h1, decide_eq_true h2]; rfl
theorem optF_shaped (o : Option Rat) : SeqAt.shaped (optF o) = true := by
  cases o with
  | none => decide +kernel
  | some q => exact fr_shaped q
theorem optL_shaped (o : Option (Rat × Rat)) : SeqAt.shaped (optL o) = true := by
  cases o with
  | none => decide +kernel
  | some q => exact shp (by simp [optL, PyData.canLay0, PyData.canLayAll0]) (by simp [optL, PyData.depth, PyData.depthAll])
theorem t2_shaped (p q : Rat) : SeqAt.shaped (.tuple [fr p, fr q]) = true := optL_shaped (some (p, q))
theorem l2_shaped (p q : Rat) : SeqAt.shaped (.list [fr p, fr q]) = true := shp (by simp [PyData.canLay0, PyData.canLayAll0]) (by simp [PyData.depth, PyData.depthAll])
theorem o2_shaped (p q : Option Rat) : SeqAt.shaped (.list [optF p, optF q]) = true := by
  cases p <;> cases q <;> exact shp (by simp [optF, PyData.canLay0, PyData.canLayAll0]) (by simp [optF, PyData.depth, PyData.depthAll])
theorem et_niD {X : Cx} {O : OS} {ds : AS} {a b : Expr} {pos : Pos} {x : PyData} {xs : List PyData} {k : Nat} (hr : Room (k + 1) X.A) (ha : Ed X O a ds x) (hb : Ed X O b ds (.list xs)) (hx : SeqAt.shaped x = true) (hy : SeqAt.shaped (.list xs) = true) (hm : behindInMarks .NotIn b = false := by rfl) :
    EvT X O (.Compare a [.NotIn] [b] pos) ds (!xs.any fun z => PyData.eqv z x) := et_cmp (op_notInD (by have := hr.un; omega)) ha hb (det2 fun G H u v w hu hv Q q => ⟨x, xs, dp_same w.sub _ _ hu, dp_same w.sub _ _ hv, hx, hy, q _ _ G H rfl w Stp.refl (.bl _)⟩) hm
theorem upto2 {i : Nat} {y : PyData} (h : (upto 2)[i]? = some y) : y = .int 0 ∨ y = .int 1 := by
  match i, h with
  | 0, h => exact .inl (Option.some.inj h).symm
  | 1, h => exact .inr (Option.some.inj h).symm
  | n + 2, h => exact nomatch h
def Ralone : RF := fun O as B => ∃ c bk w v ls xs, O = [] ∧ as = [.d (cabD c bk), .d (.tuple [.str (wn w), .str (wn v)]), .d (lksT ls), .d (lstF xs)] ∧ GoodC c bk ∧ w ≠ v ∧ ls.length ≤ 2 ∧ ls ≠ [] ∧ (∀ l ∈ ls, LkS c l) ∧ (ls.Pairwise fun p q => p.1 ≤ q.1) ∧ (∀ x ∈ xs, PlS c x) ∧ B = (· = .bool true)
theorem r__law_alone {c : List Ln} {bk : Rat} {w v : W4} {ls : List (Rat × Rat)} {xs : List Rat} (hc : GoodC c bk) (hwv : w ≠ v) (h1 : ls.length ≤ 2) (h2 : ls ≠ []) (h3 : ∀ l ∈ ls, LkS c l) (h4 : ls.Pairwise fun p q => p.1 ≤ q.1) (h5 : ∀ x ∈ xs, PlS c x) :
    Ralone [] [.d (cabD c bk), .d (.tuple [.str (wn w), .str (wn v)]), .d (lksT ls), .d (lstF xs)] (· = .bool true) := ⟨c, bk, w, v, ls, xs, rfl, rfl, hc, hwv, h1, h2, h3, h4, h5, rfl⟩
section
variable {P : Program} {w : World} {K : PySem.W.Frag} {mg : Str → Option Value} {base : Heap}
theorem d__law_alone (T : Tx K mg) : Df P w K mg base 8 "_law_alone" Ralone := df_mk (N := ["_law_cable_here", "_law_words", "_law_leaks_here", "_law_places_here", "_law_word", "_law_other", "_law_first", "_law_second", "_law_told", "_law_place", "_law_drags", "_law_k", "_law_both", "_law_one"]) (ps := ["_law_cable_here", "_law_words", "_law_leaks_here", "_law_places_here"]) T.f__law_alone ⟨rfl, rfl, rfl, by decide +kernel, rfl, by decide +kernel, by decide +kernel⟩ (fun _ _ _ _ _ _ us hl => match us, hl with | [_, _, _, _], _ => rfl) (fun O as B h => by obtain ⟨_, _, _, _, _, _, _, rfl, _⟩ := h; rfl) fun f cdv A outer s H E hr O as B h => by
  obtain ⟨c, bk, wd, v, ls, xs, rfl, rfl, hc, hwv, h1, h2, h3, h4, hxs, rfl⟩ := h
  have nd : (["_law_cable_here", "_law_words", "_law_leaks_here", "_law_places_here", "_law_word", "_law_other", "_law_first", "_law_second", "_law_told", "_law_place", "_law_drags", "_law_k", "_law_both", "_law_one"] : List Str).Nodup := by decide +kernel
  have hok : ∀ l ∈ ls, LkOk c l := fun l hl => (h3 l hl).ok hc
  have hrd := fun u => rdL_ok u hc h3 h4
  have hz : ∀ u, Sz 80 (rdL c u ls) := fun u => (hrd u).2
  have z1 := (hrd wd).1
  have z2 := (hrd v).1
  refine rn_asg (ev_v 1) (tg_pair rfl (tg_name 4 nd) (tg_name 5 nd)) (rn_par 6 7 (ea_cons (ed_call (d__law_read T) hr (by decide) (ea_cons (ev_v 0) (ea_cons (ev_v 2) (ea_cons (ev_v 4) ea_nil))) (r__law_read ?_ ?_ ?_ ?_ ?_)) (ea_cons (ed_call (d__law_read T) hr (by decide) (ea_cons (ev_v 0) (ea_cons (ev_v 2) (ea_cons (ev_v 5) ea_nil))) (r__law_read ?_ ?_ ?_ ?_ ?_)) ea_nil)) ?_ rfl nd)
  any_goals first | exact hc | exact h1 | exact h2 | exact hok | exact h4
  refine rn_setd 8 (ed_call (d_one_leak T) hr (by decide) (ea_cons (ev_v 0) (ea_cons (ev_v 4) (ea_cons (ev_v 6) (ea_cons (ev_v 5) (ea_cons (ev_v 7) ea_nil))))) (r_one_leak (r := fun u => rdL c u ls) hc hwv hz z1 z2)) ?_ nd
  have hsw : oneLk c v wd (fun u => rdL c u ls) = oneLk c wd v (fun u => rdL c u ls) := (one_swap hc hwv).symm
  have hone : ∀ l, ls = [l] → oneLk c wd v (fun u => rdL c u ls) = some l := fun l e => by
    subst e
    have hl := (h3 l List.mem_cons_self).leak
    exact one_complete hc hl hwv rdL_one.symm rdL_one.symm
  generalize hto : oneLk c wd v (fun u => rdL c u ls) = told at hone
  obtain ⟨l, lt, hls⟩ := List.exists_cons_of_ne_nil h2
  have e1 : PyData.eqv (optL (oneLk c v wd (fun u => rdL c u ls))) (optL told) = true := by rw [hsw, hto, optL_eqv, decide_eq_true rfl]
  have e2 : lt = [] → PyData.eqv (optL told) (lkD l) = true := fun e => by
    rw [hone l (by rw [hls, e])]
    show PyData.eqv (optL (some l)) (optL (some l)) = true
    rw [optL_eqv, decide_eq_true rfl]
  refine rn_ifF (EvT.to (et_w (ew_or (et_ne hr (ed_call (d_one_leak T) hr (by decide) (ea_cons (ev_v 0) (ea_cons (ev_v 5) (ea_cons (ev_v 7) (ea_cons (ev_v 4) (ea_cons (ev_v 6) ea_nil))))) (r_one_leak (r := fun u => rdL c u ls) hc (Ne.symm hwv) hz z2 z1)) (ev_v 8) (optL_shaped _) (optL_shaped _)) fun _ => (ew_or1 (et_w (ew_and (et_eqI (ed_len T.b_len (ev_v 2) (.inr rfl)) ed_int) fun _ => (ew_and1 (et_ne hr (ev_v 8) (ed_ixT (d := lkD l) (ev_v 2) ed_int (by rw [hls]; exact at_nat (k := 0) rfl)) (optL_shaped _) (t2_shaped _ _)))))))) ?_) ?_
  · rw [e1]
    cases lt with
    | nil => rw [e2 rfl]; simp
    | cons l2 lt2 =>
      have : decide ((((ls.map lkD).length : Nat) : Int) = 1) = false := decide_eq_false (by rw [hls]; simp; omega)
      rw [this]; rfl
  refine rn_for0 (fun i ds => ∃ o9 o10 o11 o12 o13, ds = [some (.d (cabD c bk)), some (.d (.tuple [.str (wn wd), .str (wn v)])), some (.d (lksT ls)), some (.d (lstF xs)), some (.d (.str (wn wd))), some (.d (.str (wn v))), some (.d (fr (rdL c wd ls))), some (.d (fr (rdL c v ls))), some (.d (optL told)), o9, o10, o11, o12, o13]) PassesOwn.never rfl (iw_list (ev_v 3)) ⟨none, none, none, none, none, rfl⟩ (fun i y ds' hy inv => ?_) fun ds' inv => ?_
  · obtain ⟨x, ex, rfl⟩ := map_at hy
    obtain ⟨o9, o10, o11, o12, o13, rfl⟩ := inv
    have hx := hxs x (List.mem_of_getElem? ex)
    have s1 : Sz 900 (dragC c x) := (hx.sn hc).mono (by decide)
    have s2 : Sz 900 (rdL c wd ls) := (hz wd).mono (by decide)
    have s3 : Sz 900 (rdL c v ls) := (hz v).mono (by decide)
    have p0 := hx.x0
    have p1 := hx.x1
    have p2 := hx.sx
    refine ⟨_, tg_name 9 nd, rn_setd 10 (ed_lst2 (ed_call (d_drag_by T) hr (by decide) (ea_cons (ev_v 0) (ea_cons (ev_v 4) (ea_cons (ev_v 6) (ea_cons (ev_v 9) ea_nil)))) (r_drag_by ?_ ?_ ?_ ?_ ?_ ?_ ?_)) (ed_call (d_drag_by T) hr (by decide) (ea_cons (ev_v 0) (ea_cons (ev_v 5) (ea_cons (ev_v 7) (ea_cons (ev_v 9) ea_nil)))) (r_drag_by ?_ ?_ ?_ ?_ ?_ ?_ ?_))) ?_ nd⟩
    any_goals first | exact hc | exact z1 | exact z2 | exact s1 | exact s2 | exact s3 | exact p0 | exact p1 | exact p2
    refine rn_for0 (fun j ds => ∃ o11 o12 o13, ds = [some (.d (cabD c bk)), some (.d (.tuple [.str (wn wd), .str (wn v)])), some (.d (lksT ls)), some (.d (lstF xs)), some (.d (.str (wn wd))), some (.d (.str (wn v))), some (.d (fr (rdL c wd ls))), some (.d (fr (rdL c v ls))), some (.d (optL told)), some (.d (fr x)), some (.d (.list [optF (dwC c wd x (rdL c wd ls)), optF (dwC c v x (rdL c v ls))])), o11, o12, o13]) PassesOwn.never rfl (iw_range (n := 2) T.b_range ed_int (by decide)) ⟨_, _, _, rfl⟩ (fun j y ds' hy inv => ?_) fun ds' inv => ?_
    · obtain ⟨k, u, rfl, hat⟩ : ∃ k u, y = .int k ∧ atI [optF (dwC c wd x (rdL c wd ls)), optF (dwC c v x (rdL c v ls))] k = some (optF (dwC c u x (rdL c u ls))) := by
        rcases upto2 hy with e | e
        · exact ⟨0, wd, e, rfl⟩
        · exact ⟨1, v, e, rfl⟩
      obtain ⟨o11, o12, o13, rfl⟩ := inv
      refine ⟨_, tg_name 11 nd, ?_⟩
      cases hd : dwC c u x (rdL c u ls) with
      | none =>
        rw [hd] at hat
        exact rn_ifF (EvT.to (et_notN (ed_ixL (ev_v 10) (ev_v 11) hat)) rfl) (rn_nil ⟨rfl, _, _, _, rfl⟩)
      | some g =>
        rw [hd] at hat
        have hat : _ = some (fr g) := hat
        obtain ⟨lk, er⟩ := dwC_is hc hx hd
        have sg := dwC_sz hc hx (hz u) hd
        have hk : ∀ q ∈ [(x, g)], LkOk c q := fun q hq => by
          rw [List.mem_singleton.mp hq]
          exact ⟨p0, p2, (hx.sn hc).mono (by decide), sg.mono (by decide), lk.g0⟩
        have hread : ∀ u', Rlread [] [.d (cabD c bk), .d (.tuple [.tuple [fr x, fr g]]), .d (.str (wn u'))] (· = fr (rdL c u' [(x, g)])) := fun u' => r__law_read (ls := [(x, g)]) hc (show 1 ≤ 2 by decide) (by simp) hk (List.pairwise_singleton _ _)
        refine rn_ifT (EvT.to (et_notN (ed_ixL (ev_v 10) (ev_v 11) hat)) rfl) (rn_setLc (hsw := sw_true rfl rfl rfl (by decide +kernel)) (own := [("_law_one", 13)]) (ys := [fr (rdL c wd [(x, g)]), fr (rdL c v [(x, g)])]) 12 rfl nd (iw_tup (ed_tup2 (ev_v 4) (ev_v 5))) (fun _ h => (nomatch h)) (blkOk_by (N := ["_law_cable_here", "_law_words", "_law_leaks_here", "_law_places_here", "_law_word", "_law_other", "_law_first", "_law_second", "_law_told", "_law_place", "_law_drags", "_law_k", "_law_both", "_law_one"]) (sc := defScope (topS 80)) (by decide +kernel)) (tb_name 13 nd (fun _ _ _ _ _ => (pg_name (i := 13) nd rfl (Or.inl rfl)))) (fun _ _ => True.intro) ?_ ?_ (fun ci cx cy hcx hcy _ _ _ _ _ => ?_) ?_)
        · rfl
        · show 2 ≤ 1000
          decide
        · match ci, hcx, hcy with
          | 0, hcx, hcy =>
            have e1 := Option.some.inj hcx
            have e2 := Option.some.inj hcy
            subst e1 e2
            exact ed_call (d__law_read T) hr (by decide) (ea_cons (ev_v 0) (ea_cons (ed_tup1 (ed_tup2 (ev_v 9) (ed_ixL (ev_v 10) (ev_v 11) hat))) (ea_cons (ev_v 13) ea_nil))) (hread wd)
          | 1, hcx, hcy =>
            have e1 := Option.some.inj hcx
            have e2 := Option.some.inj hcy
            subst e1 e2
            exact ed_call (d__law_read T) hr (by decide) (ea_cons (ev_v 0) (ea_cons (ed_tup1 (ed_tup2 (ev_v 9) (ed_ixL (ev_v 10) (ev_v 11) hat))) (ea_cons (ev_v 13) ea_nil))) (hread v)
          | n + 2, hcx, _ => exact nomatch hcx
        refine rn_ifF (EvT.to (et_neB (ed_eq hr (ev_v 12) (ed_lst2 (ev_v 6) (ev_v 7)) ?_ ?_) (ed_eq hr (ev_v 8) (ed_tup2 (ev_v 9) (ed_ixL (ev_v 10) (ev_v 11) hat)) ?_ ?_)) ?_) (rn_nil ⟨fun _ h => h, rn_nil ⟨rfl, _, _, _, rfl⟩⟩)
        · exact l2_shaped _ _
        · exact l2_shaped _ _
        · exact optL_shaped _
        · exact t2_shaped _ _
        · have ea : PyData.eqv (.list [fr (rdL c wd [(x, g)]), fr (rdL c v [(x, g)])]) (.list [fr (rdL c wd ls), fr (rdL c v ls)]) = PyData.eqv (optL told) (.tuple [fr x, fr g]) := by
            rw [show PyData.tuple [fr x, fr g] = optL (some (x, g)) from rfl, optL_eqv, eqv_l2, fr_eqv, fr_eqv, rdL_one, rdL_one, ← hto, ← Bool.decide_and]
            exact decide_eq_decide.mpr (told_iff (r := fun u => rdL c u ls) hc hwv lk).symm
          rw [ea]; simp
    · obtain ⟨o11, o12, o13, rfl⟩ := inv
      cases hd1 : dwC c wd x (rdL c wd ls) with
      | none => exact rn_ifF (et_w (ew_andF (EvT.to (et_niD hr ed_non (ev_v 10) (by decide +kernel) (o2_shaped _ _)) (by rw [List.any_cons]; show (!(PyData.eqv .none .none || _)) = false; rw [eqv_nn]; rfl)))) (rn_nil ⟨rfl, _, _, _, _, _, rfl⟩)
      | some g1 =>
        cases hd2 : dwC c v x (rdL c v ls) with
        | none => exact rn_ifF (et_w (ew_andF (EvT.to (et_niD hr ed_non (ev_v 10) (by decide +kernel) (o2_shaped _ _)) (by rw [List.any_cons, List.any_cons]; show (!(_ || (PyData.eqv .none .none || _))) = false; rw [eqv_nn]; simp)))) (rn_nil ⟨rfl, _, _, _, _, _, rfl⟩)
        | some g2 =>
          refine rn_ifF (EvT.to (et_w (ew_and (et_niD hr ed_non (ev_v 10) ?_ ?_) fun _ => (ew_and1 (et_neB (ed_eq hr (ed_ixL (ev_v 10) ed_int) (ed_ixL (ev_v 10) ed_int) ?_ ?_) (ed_eq hr (ev_v 8) (ed_tup2 (ev_v 9) (ed_ixL (ev_v 10) ed_int)) ?_ ?_))))) ?_) (rn_nil ⟨rfl, _, _, _, _, _, rfl⟩)
          · decide +kernel
          · exact o2_shaped _ _
          · exact fr_shaped _
          · exact fr_shaped _
          · exact optL_shaped _
          · exact t2_shaped _ _
          · have ea : PyData.eqv (fr g1) (fr g2) = PyData.eqv (optL told) (.tuple [fr x, fr g1]) := by
              rw [show PyData.tuple [fr x, fr g1] = optL (some (x, g1)) from rfl, optL_eqv, fr_eqv, ← hto]
              exact decide_eq_decide.mpr (drags_iff (r := fun u => rdL c u ls) hc hwv hx hd1 hd2)
            show (_ && !decide (PyData.eqv (fr g1) (fr g2) = PyData.eqv (optL told) (.tuple [fr x, fr g1]))) = false
            rw [ea]; simp
  · obtain ⟨o9, o10, o11, o12, o13, rfl⟩ := inv
    exact rn_ret ed_bl fun a z => ⟨rfl, _, z, rfl⟩
end
end Ea

namespace Ea
open PySem PySem.Spec PyProof.Rows L2
/-! ### the law -/
abbrev WL : List W4 := [.wf, .ef, .we, .ee]
abbrev wdD : List PyData := WL.map fun w => .str (wn w)
def wix : W4 → Int
  | .wf => 0 | .ef => 1 | .we => 2 | .ee => 3
theorem at_w {j : Int} (h0 : 0 ≤ j) (h1 : j < 4) : ∃ w, atI wdD j = some (.str (wn w)) ∧ wix w = j := by
  rcases (show j = 0 ∨ j = 1 ∨ j = 2 ∨ j = 3 by omega) with rfl | rfl | rfl | rfl
  · exact ⟨.wf, rfl, rfl⟩
  · exact ⟨.ef, rfl, rfl⟩
  · exact ⟨.we, rfl, rfl⟩
  · exact ⟨.ee, rfl, rfl⟩
theorem lksT_shaped {ls : List (Rat × Rat)} (h : ls.length ≤ 2) : SeqAt.shaped (lksT ls) = true := by
  match ls, h with
  | [], _ => decide +kernel
  | [p], _ => exact shp (by simp [PyData.canLay0, PyData.canLayAll0]) (by simp [PyData.depth, PyData.depthAll])
  | [p, q], _ => exact shp (by simp [PyData.canLay0, PyData.canLayAll0]) (by simp [PyData.depth, PyData.depthAll])
theorem lksT_nil : PyData.eqv (lksT []) (.tuple []) = true := by simp [PyData.eqv, PyData.eqvAll]
def Rlaw : RF := fun O as B => ∃ ns : List Int, O = [] ∧ as = [.d (.list (ns.map PyData.int))] ∧ ns.length ≤ 63 ∧ B = (· = .bool true)
section
variable {P : Program} {w : World} {K : PySem.W.Frag} {mg : Str → Option Value} {base : Heap}
theorem fn_mk2 {x : Str} {st : Stmt} {N ps : List Str} {k : Nat} {R : RF} {f : Addr} {fd : FuncData} (F : Fun K x x st f fd) (S : FnScope N ps (defScope st))
    (hlen : ∀ O as B, R O as B → as.length = ps.length)
    (body : ∀ (f : Addr) (cdv : Value) (A : Around) (outer : List Env) (s : Shared) (H : Hp) (E : XK), Room k (Bx P w K mg base N x st f cdv A outer s H E).A → ∀ O as B, R O as B →
      Rn (Bx P w K mg base N x st f cdv A outer s H E) O (defBody st) (startD N.length as) (fun O' _ => (∀ q ∈ O, q ∈ O') ∧ B .none) (fun O' a => (∀ q ∈ O, q ∈ O') ∧ ∃ d, a = .d d ∧ B d)) : FnOk P w K mg base CX0 (k + 1) f fd ps (spA R K) := by
  refine F.ok S (fun vs H Q E h => ?_) (fun cdv A outer s H vs Q E hr h => ?_)
  · obtain ⟨G, O, as, B, hR, _, hv, _⟩ := h
    rw [← hlen O as B hR]
    exact Paired.length hv
  · obtain ⟨G, O, as, B, hR, hw, hv, q⟩ := h
    have hX := body f cdv A outer s H E hr O as B hR { nx := fun _ H' => Q .non H', rt := Q } G _ H hw (SD.start hv) (fun O' ds' G' σ' H' z w' s' _ => by
      obtain ⟨hs, z⟩ := z
      exact q .none .non G' H' z ⟨w'.sub, fun p hp => w'.own p (hs p hp), fun p hp => w'.off p (hs p hp), hw.nd⟩ s' .non) (fun O' a v G' H' z w' s' r => by
      obtain ⟨hs, d, rfl, z⟩ := z
      exact q d v G' H' z ⟨w'.sub, fun p hp => w'.own p (hs p hp), fun p hp => w'.off p (hs p hp), hw.nd⟩ s' r)
    exact hX
theorem ok_law (T : Tx K mg) {f : Addr} {fd : FuncData} (F : Fun K "law" "law" (topS 81) f fd) : FnOk P w K mg base CX0 9 f fd ["_law_script"] (spA Rlaw K) := fn_mk2 (N := ["_law_script", "_law_words", "_law_k", "_law_purse_here", "_law_cable_here", "_law_leak_here", "_law_two", "_law_at", "_law_pair", "_law_spots", "_law_one", "_law_other", "_law_first", "_law_second"]) (ps := ["_law_script"]) F ⟨rfl, rfl, rfl, by decide +kernel, rfl, by decide +kernel, by decide +kernel⟩ (fun O as B h => by obtain ⟨_, _, rfl, _⟩ := h; rfl) fun f cdv A outer s H E hr O as B h => by
  obtain ⟨ns, rfl, rfl, hns, rfl⟩ := h
  have nd : (["_law_script", "_law_words", "_law_k", "_law_purse_here", "_law_cable_here", "_law_leak_here", "_law_two", "_law_at", "_law_pair", "_law_spots", "_law_one", "_law_other", "_law_first", "_law_second"] : List Str).Nodup := by decide +kernel
  refine rn_setd (d := .d (.list wdD)) 1 (ed_lst4 ed_str ed_str ed_str ed_str) ?_ nd
  obtain ⟨n, hn, en⟩ : ∃ n : Nat, n ≤ 2 ∧ (if (if (2 : Int) < ((ns.map PyData.int).length : Nat) then (2 : Int) else ((ns.map PyData.int).length : Nat)) > 1 then (if (2 : Int) < ((ns.map PyData.int).length : Nat) then (2 : Int) else ((ns.map PyData.int).length : Nat)) else 1) = (n : Int) := by
    by_cases h : (2 : Int) < ((ns.map PyData.int).length : Nat)
    · rw [if_pos h, if_pos (by decide)]; exact ⟨2, by decide, rfl⟩
    · rw [if_neg h]
      by_cases h2 : (((ns.map PyData.int).length : Nat) : Int) > 1
      · rw [if_pos h2]; exact ⟨_, by omega, rfl⟩
      · rw [if_neg h2]; exact ⟨1, by decide, rfl⟩
  refine rn_for (xs := upto n) (fun i O' ds => O' = [] ∧ ∃ o2 o3 o4 o5 o6 o7 o8 o9 o10 o11 o12 o13, ds = [some (.d (.list (ns.map PyData.int))), some (.d (.list wdD)), o2, o3, o4, o5, o6, o7, o8, o9, o10, o11, o12, o13]) PassesOwn.never rfl
    (iw_range (n := n) T.b_range (ed_to (ed_max rfl T.b_max ed_int (ed_min rfl T.b_min (ed_len T.b_len (ev_v 0) (.inl rfl)) ed_int)) (by rw [en])) (by omega)) ⟨rfl, none, none, none, none, none, none, none, none, none, none, none, none, rfl⟩ (fun i y O' ds' hy hO inv => ?_) (fun O' ds' hO inv => ?_)
  · obtain ⟨rfl, o2, o3, o4, o5, o6, o7, o8, o9, o10, o11, o12, o13, rfl⟩ := inv
    have hi := (List.getElem?_eq_some_iff.mp hy).1
    unfold upto at hy hi
    rw [List.length_map, List.length_range] at hi
    obtain ⟨k, ek, rfl⟩ := map_at hy
    have hk := (List.getElem?_eq_some_iff.mp ek).2
    rw [List.getElem_range] at hk
    subst hk
    have hk1 : i ≤ 1 := by omega
    have hns2 : ns.length ≤ 1000 := by omega
    refine ⟨_, tg_name 2 nd, rn_purse (A := fun _ => True) 3 (d__law_purse T) hr (by decide) (ev_call (d__law_cell T) hr (by decide) (ea_cons (ev_v 0) (ea_cons (ev_v 2) ea_nil)) (fun as e => ⟨[], fun r => ∃ i : Int, r = .int i, ⟨ns, i, rfl, e, hk1, hns2, rfl⟩, subO_nil, fun d ⟨i, e⟩ => ⟨i, by rw [e], trivial⟩⟩)) (fun p => ?_) nd⟩
    have hm : (p, OV.pu) ∈ [(p, OV.pu)] := List.mem_cons_self
    have hpk : ∀ (k : Int), 0 < k → k < 10000 → ∀ n, n = k → 0 < n ∧ Sm 60 n.natAbs := fun k h0 h1 n e => by subst e; exact ⟨h0, ⟨by omega⟩⟩
    refine rn_set 4 (A := fun v => ∃ c bk, v = .d (cabD c bk) ∧ GoodC c bk) (ev_call (d__law_cable T) hr (by decide) (ea_cons (ev_v 3) (ea_cons ed_int ea_nil)) (fun as e => ⟨[(p, .pu)], fun r => ∃ c bk, r = cabD c bk ∧ GoodC c bk, ⟨p, rfl, e, rfl⟩, subO_one hm, fun d ⟨c, bk, e, h⟩ => ⟨c, bk, by rw [e], h⟩⟩)) (fun a ha => ?_) nd
    obtain ⟨c, bk, rfl, hc⟩ := ha
    refine rn_set 5 (A := fun v => ∃ l, v = .d (lkD l) ∧ LkS c l) (ev_call (d__law_leak T) hr (by decide) (ea_cons (ev_v 3) (ea_cons (ev_v 4) ea_nil)) (fun as e => ⟨[(p, .pu)], fun r => ∃ l, r = lkD l ∧ LkS c l, ⟨p, c, bk, rfl, e, hc, rfl⟩, subO_one hm, fun d ⟨l, e, h⟩ => ⟨l, by rw [e], h⟩⟩)) (fun a ha => ?_) nd
    obtain ⟨l, rfl, hl⟩ := ha
    refine rn_set 6 (A := fun v => ∃ ls, v = .d (lksT ls) ∧ ls.length ≤ 2 ∧ (∀ l ∈ ls, LkS c l) ∧ ls.Pairwise fun p q => p.1 ≤ q.1) (ev_call (d__law_leaks T) hr (by decide) (ea_cons (ev_v 3) (ea_cons (ev_v 4) (ea_cons ed_int ea_nil))) (fun as e => ⟨[(p, .pu)], fun r => ∃ ls, r = lksT ls ∧ ls.length ≤ 2 ∧ (∀ l ∈ ls, LkS c l) ∧ ls.Pairwise fun p q => p.1 ≤ q.1, ⟨p, c, bk, rfl, e, hc, rfl⟩, subO_one hm, fun d ⟨ls, e, h⟩ => ⟨ls, by rw [e], h⟩⟩)) (fun a ha => ?_) nd
    obtain ⟨ls, rfl, hls1, hls2, hls3⟩ := ha
    refine rn_set 7 (vi_pick T hr (by decide) hm (ev_v 3) (ei_of ed_int) (hpk 4 (by decide) (by decide))) (fun a ha => ?_) nd
    obtain ⟨j, rfl, j4, ej, j0, j1⟩ := ha
    subst ej
    obtain ⟨wd, hw, hwj⟩ := at_w j0 j1
    refine rn_set 8 (A := fun v => ∃ u, v = .d (.tuple [.str (wn wd), .str (wn u)]) ∧ wd ≠ u) (ev_tup2N (B := fun v => ∃ u, v = .d (.str (wn u)) ∧ wd ≠ u) (ed_ixL (ev_v 1) (ev_v 7) hw) (ev_ixLN (B := fun m => 0 ≤ m ∧ m < 4 ∧ m ≠ j) (xs := wdD) (ev_v 1) (ei_mod (A := fun m => ∃ k, 0 ≤ k ∧ k < 3 ∧ m = j + 1 + k) (ei_imp (vi_add (A := (· = j + 1)) (ei_of (ed_add (ev_v 7) ed_int)) (vi_pick T hr (by decide) hm (ev_v 3) (ei_of ed_int) (hpk 3 (by decide) (by decide)))) (fun m ⟨a, b, e1, ⟨n, e2, h1, h2⟩, e3⟩ => ⟨b, h1, by omega, by rw [e3, e1]⟩)) (ei_of ed_int) (fun m n ⟨k, h1, h2, e⟩ e2 => by subst e2; omega)) (fun m hm => by
      obtain ⟨u, hu, huj⟩ := at_w hm.1 hm.2.1
      exact ⟨_, hu, u, rfl, fun z => hm.2.2 (by rw [← huj, ← hwj, z])⟩)) (fun x y hx ⟨u, hy, hu⟩ => ⟨_, _, hx, hy, u, rfl, hu⟩)) (fun a ha => ?_) nd
    obtain ⟨v, rfl, hwv⟩ := ha
    refine rn_set 9 (A := fun v => ∃ xs, v = .d (lstF xs) ∧ ∀ x ∈ xs, PlS c x) (ev_call (d__law_places T) hr (by decide) (ea_cons (ev_v 3) (ea_cons (ev_v 4) (ea_cons (ed_to (y := lksT (l :: ls)) (ed_catT (ed_tup1 (ev_v 5)) (ev_v 6) (by simp) (by rw [List.length_map]; show 1 + ls.length ≤ 1000; omega)) rfl) ea_nil))) (fun as e => ⟨[(p, .pu)], fun r => ∃ xs, r = lstF xs ∧ xs.length ≤ 1000 ∧ ∀ x ∈ xs, PlS c x, ⟨p, c, bk, l :: ls, rfl, e, hc, by rw [List.length_cons]; omega, fun q hq => (List.mem_cons.mp hq).elim (fun z => by rw [z]; exact hl) (hls2 q), rfl⟩, subO_one hm, fun d ⟨xs, e, _, h⟩ => ⟨xs, by rw [e], h⟩⟩)) (fun a ha => ?_) nd
    obtain ⟨xs, rfl, hxs⟩ := ha
    refine rn_drop ?_
    have hl1 : ∀ q ∈ [l], LkS c q := fun q hq => by rw [List.mem_singleton.mp hq]; exact hl
    have ho1 : ∀ q ∈ [l], LkOk c q := fun q hq => (hl1 q hq).ok hc
    have hp1 : [l].Pairwise fun p q => p.1 ≤ q.1 := List.pairwise_singleton _ _
    refine rn_ifF (EvT.to (et_w (ew_or (et_not (et_val (ed_call (d__law_alone T) hr (by decide) (ea_cons (ev_v 4) (ea_cons (ev_v 8) (ea_cons (ed_tup1 (ev_v 5)) (ea_cons (ev_v 9) ea_nil)))) (r__law_alone (ls := [l]) hc hwv (show 1 ≤ 2 by decide) (by simp) hl1 hp1 hxs)))) fun _ => ew_or1 (et_w (ew_and (et_ne hr (ev_v 6) ed_tup0 (lksT_shaped hls1) (by decide +kernel)) fun hne => ew_and1 (et_not (et_val (ed_call (d__law_alone T) hr (by decide) (ea_cons (ev_v 4) (ea_cons (ev_v 8) (ea_cons (ev_v 6) (ea_cons (ev_v 9) ea_nil)))) (r__law_alone hc hwv hls1 (fun z => by rw [z, lksT_nil] at hne; cases hne) hls2 hls3 hxs)))))))) (by simp)) ?_
    refine rn_for0 (fun _ ds => ∃ o10 o11 o12 o13, ds = [some (.d (.list (ns.map PyData.int))), some (.d (.list wdD)), some (.d (.int (i : Nat))), some (.own p), some (.d (cabD c bk)), some (.d (lkD l)), some (.d (lksT ls)), some (.d (.int j)), some (.d (.tuple [.str (wn wd), .str (wn v)])), some (.d (lstF xs)), o10, o11, o12, o13]) PassesOwn.never rfl (iw_list (ev_v 1)) ⟨_, _, _, _, rfl⟩ (fun i1 y1 ds' hy1 inv => ?_) fun ds' inv => ?_
    · obtain ⟨w1, _, rfl⟩ := map_at hy1
      obtain ⟨o10, o11, o12, o13, rfl⟩ := inv
      refine ⟨_, tg_name 10 nd, ?_⟩
      refine rn_for0 (fun _ ds => ∃ o11 o12 o13, ds = [some (.d (.list (ns.map PyData.int))), some (.d (.list wdD)), some (.d (.int (i : Nat))), some (.own p), some (.d (cabD c bk)), some (.d (lkD l)), some (.d (lksT ls)), some (.d (.int j)), some (.d (.tuple [.str (wn wd), .str (wn v)])), some (.d (lstF xs)), some (.d (.str (wn w1))), o11, o12, o13]) PassesOwn.never rfl (iw_list (ev_v 1)) ⟨_, _, _, rfl⟩ (fun i2 y2 ds' hy2 inv => ?_) fun ds' inv => ?_
      · obtain ⟨w2, _, rfl⟩ := map_at hy2
        obtain ⟨o11, o12, o13, rfl⟩ := inv
        refine ⟨_, tg_name 11 nd, ?_⟩
        by_cases h12 : w1 = w2
        · subst h12
          exact rn_ifF (EvT.to (et_neS (ev_v 10) (ev_v 11)) (by rw [decide_eq_true rfl]; rfl)) (rn_nil ⟨rfl, _, _, _, rfl⟩)
        · have hz : ∀ u, Sz 80 (rdL c u [l]) := fun u => (rdL_ok u hc hl1 hp1).2
          have hn0 : ∀ u, 0 ≤ rdL c u [l] := fun u => (rdL_ok u hc hl1 hp1).1
          have hread : ∀ u', Rlread [] [.d (cabD c bk), .d (.tuple [lkD l]), .d (.str (wn u'))] (· = fr (rdL c u' [l])) := fun u' => r__law_read (ls := [l]) hc (show 1 ≤ 2 by decide) (by simp) ho1 hp1
          have hone : oneLk c w1 w2 (fun u => rdL c u [l]) = some l := one_complete hc hl.leak h12 rdL_one.symm rdL_one.symm
          refine rn_ifT (EvT.to (et_neS (ev_v 10) (ev_v 11)) (by rw [decide_eq_false (wn_inj h12)]; rfl)) ?_
          refine rn_par 12 13 (ea_cons (ed_call (d__law_read T) hr (by decide) (ea_cons (ev_v 4) (ea_cons (ed_tup1 (ev_v 5)) (ea_cons (ev_v 10) ea_nil))) (hread w1)) (ea_cons (ed_call (d__law_read T) hr (by decide) (ea_cons (ev_v 4) (ea_cons (ed_tup1 (ev_v 5)) (ea_cons (ev_v 11) ea_nil))) (hread w2)) ea_nil)) ?_ rfl nd
          refine rn_ifF (EvT.to (et_ne hr (ed_call (d_one_leak T) hr (by decide) (ea_cons (ev_v 4) (ea_cons (ev_v 10) (ea_cons (ev_v 12) (ea_cons (ev_v 11) (ea_cons (ev_v 13) ea_nil))))) (r_one_leak (r := fun u => rdL c u [l]) hc h12 hz (hn0 w1) (hn0 w2))) (ev_v 5) (optL_shaped _) (t2_shaped _ _)) ?_) (rn_nil ⟨fun _ h => h, rn_nil ⟨rfl, _, _, _, rfl⟩⟩)
          rw [hone]
          show (!PyData.eqv (optL (some l)) (optL (some l))) = false
          rw [optL_eqv, decide_eq_true rfl]; rfl
      · obtain ⟨o11, o12, o13, rfl⟩ := inv
        exact rn_nil ⟨rfl, _, _, _, _, rfl⟩
    · obtain ⟨o10, o11, o12, o13, rfl⟩ := inv
      exact rn_nil ⟨rfl, rfl, _, _, _, _, _, _, _, _, _, _, _, _, rfl⟩
  · obtain ⟨rfl, o2, o3, o4, o5, o6, o7, o8, o9, o10, o11, o12, o13, rfl⟩ := inv
    exact rn_ret ed_bl fun a z => ⟨fun _ h => (nomatch h), _, z, rfl⟩
end
end Ea

namespace Ea
open PySem PySem.Spec PyProof.Rows L2
/-! ### what the top has left; the head -/
section
variable {K : PySem.W.Frag} {h : Heap} {mg : Str → Option Value}
theorem at_mk {x : Str} {st : Stmt} {f : Addr} {oc : Value} {od an : Option Addr} {osl : Array (Option Value)} {kV doc pm cdv ct : Value} (X : K.In h) (G : h.Ns mainGlobals mg) (a : PySem.W.nsIn K mainGlobals x = some (some (.ref f)))
    (l : K.lookup f = some ⟨oc, od, .func (PySem.W.fnOf x x (defArgs st) (defBody st) (defScope st) .none kV doc pm an cdv ct), osl⟩) (c : PySem.W.codeIn K cdv x = true) (k : PySem.W.keepIn K (.ref f) = true) : At K mg x st := ⟨f, _, fun_mk l c k, PySem.W.mg_of X G a⟩
theorem cn_int {x : Str} {i : Int} {t : Tok} (X : K.In h) (G : h.Ns mainGlobals mg) (a : PySem.W.nsIn K mainGlobals x = some (some (.int i t))) : Cn K mg x (.int i) := ⟨.int i, _, PySem.W.mg_of X G a, ⟨t, rfl⟩, fun _ => .int i⟩
theorem cn_zero {x : Str} {p : Addr} {od : Option Addr} {osl : Array (Option Value)} {t u : Tok} {n : Nat} (X : K.In h) (G : h.Ns mainGlobals mg) (a : PySem.W.nsIn K mainGlobals x = some (some (.ref p)))
    (l : K.lookup p = some ⟨.type "tuple", od, .seq #[.int 0 t, .int 1 u] n, osl⟩) : Cn K mg x (fr 0) := ⟨.ref p, _, PySem.W.mg_of X G a, rfl, fun _ => .tup (xs := [.int 0, .int 1]) (.inr ⟨_, _, n, l, rfl, rfl, by show 2 ≤ _; decide, .cons ⟨t, rfl⟩ (.cons ⟨u, rfl⟩ .nil)⟩) (.cons (.int 0) (.cons (.int 1) .nil))⟩
theorem cn_str2 {x s1 s2 : Str} {p : Addr} {od : Option Addr} {osl : Array (Option Value)} {t1 t2 : Tok} {n : Nat} (X : K.In h) (G : h.Ns mainGlobals mg) (a : PySem.W.nsIn K mainGlobals x = some (some (.ref p)))
    (l : K.lookup p = some ⟨.type "tuple", od, .seq #[.str s1 t1, .str s2 t2] n, osl⟩) : Cn K mg x (sts [s1, s2]) := ⟨.ref p, _, PySem.W.mg_of X G a, rfl, fun _ => .tup (xs := [.str s1, .str s2]) (.inr ⟨_, _, n, l, rfl, rfl, by show 2 ≤ _; decide, .cons ⟨t1, rfl⟩ (.cons ⟨t2, rfl⟩ .nil)⟩) (dpa_of_strs [s1, s2])⟩
theorem cn_str4 {x s1 s2 s3 s4 : Str} {p : Addr} {od : Option Addr} {osl : Array (Option Value)} {t1 t2 t3 t4 : Tok} {n : Nat} (X : K.In h) (G : h.Ns mainGlobals mg) (a : PySem.W.nsIn K mainGlobals x = some (some (.ref p)))
    (l : K.lookup p = some ⟨.type "tuple", od, .seq #[.str s1 t1, .str s2 t2, .str s3 t3, .str s4 t4] n, osl⟩) : Cn K mg x (sts [s1, s2, s3, s4]) := ⟨.ref p, _, PySem.W.mg_of X G a, rfl, fun _ => .tup (xs := [.str s1, .str s2, .str s3, .str s4]) (.inr ⟨_, _, n, l, rfl, rfl, by show 4 ≤ _; decide, .cons ⟨t1, rfl⟩ (.cons ⟨t2, rfl⟩ (.cons ⟨t3, rfl⟩ (.cons ⟨t4, rfl⟩ .nil)))⟩) (dpa_of_strs [s1, s2, s3, s4])⟩
theorem nm_none {x : Str} (X : K.In h) (G : h.Ns mainGlobals mg) (a : PySem.W.nsIn K mainGlobals x = some none) : mg x = none := PySem.W.mg_none_of X G a
theorem all_mk {l : PySem.W.OpenLaw} {w : World} {fa f : Addr} {oc : Value} {od an : Option Addr} {osl : Array (Option Value)} {kV doc pm cdv ct : Value} (X : K.In h) (G : h.Ns mainGlobals mg) (hfa : mg "law" = some (.ref fa)) (T : Tx K mg) (a : PySem.W.nsIn K mainGlobals "law" = some (some (.ref f)))
    (lk : K.lookup f = some ⟨oc, od, .func (PySem.W.fnOf "law" "law" (defArgs (topS 81)) (defBody (topS 81)) (defScope (topS 81)) .none kV doc pm an cdv ct), osl⟩) (c : PySem.W.codeIn K cdv "law" = true) (k : PySem.W.keepIn K (.ref f) = true) :
    ∃ fd : FuncData, (∀ (s : Shared) (v : Value), BindsTo s fd ⟨[v], []⟩ [("_law_script", v)]) ∧ ∀ base : Heap, K.In base → base.Ns mainGlobals mg → FnOk l.prog w K mg base CX0 9 fa fd ["_law_script"] (spA Rlaw K) := by
  have e := hfa.symm.trans (PySem.W.mg_of X G a)
  cases e
  exact ⟨PySem.W.fnOf "law" "law" (defArgs (topS 81)) (defBody (topS 81)) (defScope (topS 81)) .none kV doc pm an cdv ct, fun s v => .of_eq rfl, fun base _ _ => ok_law T (fun_mk lk c k)⟩
end
theorem walk {l : PySem.W.OpenLaw} {q : Program} {loose : List Str} {XP : (Str → Option Value) → Heap → Prop} {YP : World → Heap → Prop} {d : DefRec} {K : Params → PySem.W.Frag} (hn : l.most = some 63) (hdf : d.params.defaults = [])
    (hY : ∀ (w : World) (h : Heap), YP w h → (K w.params).In h)
    (F : ∀ (w : World) (mg : Str → Option Value) (fa : Addr) (h : Heap), (K w.params).In h → h.Ns mainGlobals mg → mg d.name = some (.ref fa) →
      ∃ fd : FuncData, (∀ (s : Shared) (u : Value), BindsTo s fd ⟨[u], []⟩ [("_law_script", u)]) ∧ ∀ base : Heap, (K w.params).In base → base.Ns mainGlobals mg → FnOk l.prog w (K w.params) mg base CX0 9 fa fd ["_law_script"] (spA Rlaw (K w.params))) :
    PySem.W.WalkO q loose XP YP l.row.toRowW d [] (fun f vs => PySem.call f vs) :=
  L2.walk_of (n := 63) (k := 9) (x := "_law_script") (CX := fun _ => CX0) (sp := fun w => spA Rlaw (K w.params)) hn (by decide) hdf ⟨rfl, by decide, by decide⟩ hY F (fun w H a ns hl _ hS => ⟨H, [], [.d (.list (ns.map PyData.int))], (· = .bool true), ⟨ns, rfl, rfl, hl, rfl⟩, Wd.nil (Same.refl H), .cons (.lst hS (dpa_of_ints ns)) .nil, fun d v G' H' e _ _ r => by subst e; cases r; rfl⟩) fun _ _ _ _ _ z => z
end Ea


open PySem PySem.W PyProof.Rows in
set_option maxRecDepth 100000 in
set_option maxHeartbeats 0 in
theorem PySem.Challenge.cw_earthends_k16_whole_no_other_leak_holds : PySem.Challenge.rw_earthends_k16_whole_no_other_leak.Holds := by
  w_on; o_law; k_head; (case hw => w_witness2)
  k_fill
  refine Ea.walk (l := PySem.Challenge.rw_earthends_k16_whole_no_other_leak) rfl rfl (fun w h Y => PySem.W.kIn_of Y) ?F
  case F =>
    intro w mg fa h KX G hmg
    refine' Ea.all_mk KX G hmg ?T ?a ?l ?c ?k
    (case a => k_is)
    (case l => k_is)
    (case c => k_is)
    (case k => k_is)
    case T =>
      constructor
      (case f_is_whole => refine' Ea.at_mk KX G ?a ?l ?c ?k; (case a => k_is); (case l => k_is); (case c => k_is); (case k => k_is))
      (case f_share_of => refine' Ea.at_mk KX G ?a ?l ?c ?k; (case a => k_is); (case l => k_is); (case c => k_is); (case k => k_is))
      (case f_low => refine' Ea.at_mk KX G ?a ?l ?c ?k; (case a => k_is); (case l => k_is); (case c => k_is); (case k => k_is))
      (case f_is_fraction => refine' Ea.at_mk KX G ?a ?l ?c ?k; (case a => k_is); (case l => k_is); (case c => k_is); (case k => k_is))
      (case f_is_from_zero => refine' Ea.at_mk KX G ?a ?l ?c ?k; (case a => k_is); (case l => k_is); (case c => k_is); (case k => k_is))
      (case f_is_above_zero => refine' Ea.at_mk KX G ?a ?l ?c ?k; (case a => k_is); (case l => k_is); (case c => k_is); (case k => k_is))
      (case f_check_fraction => refine' Ea.at_mk KX G ?a ?l ?c ?k; (case a => k_is); (case l => k_is); (case c => k_is); (case k => k_is))
      (case f_add => refine' Ea.at_mk KX G ?a ?l ?c ?k; (case a => k_is); (case l => k_is); (case c => k_is); (case k => k_is))
      (case f_less => refine' Ea.at_mk KX G ?a ?l ?c ?k; (case a => k_is); (case l => k_is); (case c => k_is); (case k => k_is))
      (case f_mul => refine' Ea.at_mk KX G ?a ?l ?c ?k; (case a => k_is); (case l => k_is); (case c => k_is); (case k => k_is))
      (case f_div => refine' Ea.at_mk KX G ?a ?l ?c ?k; (case a => k_is); (case l => k_is); (case c => k_is); (case k => k_is))
      (case f_half => refine' Ea.at_mk KX G ?a ?l ?c ?k; (case a => k_is); (case l => k_is); (case c => k_is); (case k => k_is))
      (case f_is_less => refine' Ea.at_mk KX G ?a ?l ?c ?k; (case a => k_is); (case l => k_is); (case c => k_is); (case k => k_is))
      (case f_whole_root => refine' Ea.at_mk KX G ?a ?l ?c ?k; (case a => k_is); (case l => k_is); (case c => k_is); (case k => k_is))
      (case f_root => refine' Ea.at_mk KX G ?a ?l ?c ?k; (case a => k_is); (case l => k_is); (case c => k_is); (case k => k_is))
      (case f_is_small => refine' Ea.at_mk KX G ?a ?l ?c ?k; (case a => k_is); (case l => k_is); (case c => k_is); (case k => k_is))
      (case f_is_length => refine' Ea.at_mk KX G ?a ?l ?c ?k; (case a => k_is); (case l => k_is); (case c => k_is); (case k => k_is))
      (case f_is_cable => refine' Ea.at_mk KX G ?a ?l ?c ?k; (case a => k_is); (case l => k_is); (case c => k_is); (case k => k_is))
      (case f_check_cable => refine' Ea.at_mk KX G ?a ?l ?c ?k; (case a => k_is); (case l => k_is); (case c => k_is); (case k => k_is))
      (case f_all_steps => refine' Ea.at_mk KX G ?a ?l ?c ?k; (case a => k_is); (case l => k_is); (case c => k_is); (case k => k_is))
      (case f_all_drag => refine' Ea.at_mk KX G ?a ?l ?c ?k; (case a => k_is); (case l => k_is); (case c => k_is); (case k => k_is))
      (case f_is_place => refine' Ea.at_mk KX G ?a ?l ?c ?k; (case a => k_is); (case l => k_is); (case c => k_is); (case k => k_is))
      (case f_check_place => refine' Ea.at_mk KX G ?a ?l ?c ?k; (case a => k_is); (case l => k_is); (case c => k_is); (case k => k_is))
      (case f_drag_at => refine' Ea.at_mk KX G ?a ?l ?c ?k; (case a => k_is); (case l => k_is); (case c => k_is); (case k => k_is))
      (case f_place_with => refine' Ea.at_mk KX G ?a ?l ?c ?k; (case a => k_is); (case l => k_is); (case c => k_is); (case k => k_is))
      (case f_both_seen => refine' Ea.at_mk KX G ?a ?l ?c ?k; (case a => k_is); (case l => k_is); (case c => k_is); (case k => k_is))
      (case f_join => refine' Ea.at_mk KX G ?a ?l ?c ?k; (case a => k_is); (case l => k_is); (case c => k_is); (case k => k_is))
      (case f_stretch_by => refine' Ea.at_mk KX G ?a ?l ?c ?k; (case a => k_is); (case l => k_is); (case c => k_is); (case k => k_is))
      (case f_beside => refine' Ea.at_mk KX G ?a ?l ?c ?k; (case a => k_is); (case l => k_is); (case c => k_is); (case k => k_is))
      (case f_reading => refine' Ea.at_mk KX G ?a ?l ?c ?k; (case a => k_is); (case l => k_is); (case c => k_is); (case k => k_is))
      (case f_check_word => refine' Ea.at_mk KX G ?a ?l ?c ?k; (case a => k_is); (case l => k_is); (case c => k_is); (case k => k_is))
      (case f_check_reading => refine' Ea.at_mk KX G ?a ?l ?c ?k; (case a => k_is); (case l => k_is); (case c => k_is); (case k => k_is))
      (case f_drag_with => refine' Ea.at_mk KX G ?a ?l ?c ?k; (case a => k_is); (case l => k_is); (case c => k_is); (case k => k_is))
      (case f_drag_by => refine' Ea.at_mk KX G ?a ?l ?c ?k; (case a => k_is); (case l => k_is); (case c => k_is); (case k => k_is))
      (case f_by_free_and_earth => refine' Ea.at_mk KX G ?a ?l ?c ?k; (case a => k_is); (case l => k_is); (case c => k_is); (case k => k_is))
      (case f_by_free_and_far_earth => refine' Ea.at_mk KX G ?a ?l ?c ?k; (case a => k_is); (case l => k_is); (case c => k_is); (case k => k_is))
      (case f_by_earths => refine' Ea.at_mk KX G ?a ?l ?c ?k; (case a => k_is); (case l => k_is); (case c => k_is); (case k => k_is))
      (case f_possible_drags => refine' Ea.at_mk KX G ?a ?l ?c ?k; (case a => k_is); (case l => k_is); (case c => k_is); (case k => k_is))
      (case f_leak_with => refine' Ea.at_mk KX G ?a ?l ?c ?k; (case a => k_is); (case l => k_is); (case c => k_is); (case k => k_is))
      (case f_one_leak => refine' Ea.at_mk KX G ?a ?l ?c ?k; (case a => k_is); (case l => k_is); (case c => k_is); (case k => k_is))
      (case f__law_cell => refine' Ea.at_mk KX G ?a ?l ?c ?k; (case a => k_is); (case l => k_is); (case c => k_is); (case k => k_is))
      (case f__law_purse => refine' Ea.at_mk KX G ?a ?l ?c ?k; (case a => k_is); (case l => k_is); (case c => k_is); (case k => k_is))
      (case f__law_pick => refine' Ea.at_mk KX G ?a ?l ?c ?k; (case a => k_is); (case l => k_is); (case c => k_is); (case k => k_is))
      (case f__law_low => refine' Ea.at_mk KX G ?a ?l ?c ?k; (case a => k_is); (case l => k_is); (case c => k_is); (case k => k_is))
      (case f__law_plus => refine' Ea.at_mk KX G ?a ?l ?c ?k; (case a => k_is); (case l => k_is); (case c => k_is); (case k => k_is))
      (case f__law_minus => refine' Ea.at_mk KX G ?a ?l ?c ?k; (case a => k_is); (case l => k_is); (case c => k_is); (case k => k_is))
      (case f__law_times => refine' Ea.at_mk KX G ?a ?l ?c ?k; (case a => k_is); (case l => k_is); (case c => k_is); (case k => k_is))
      (case f__law_over => refine' Ea.at_mk KX G ?a ?l ?c ?k; (case a => k_is); (case l => k_is); (case c => k_is); (case k => k_is))
      (case f__law_below => refine' Ea.at_mk KX G ?a ?l ?c ?k; (case a => k_is); (case l => k_is); (case c => k_is); (case k => k_is))
      (case f__law_all => refine' Ea.at_mk KX G ?a ?l ?c ?k; (case a => k_is); (case l => k_is); (case c => k_is); (case k => k_is))
      (case f__law_drag_to => refine' Ea.at_mk KX G ?a ?l ?c ?k; (case a => k_is); (case l => k_is); (case c => k_is); (case k => k_is))
      (case f__law_place_at => refine' Ea.at_mk KX G ?a ?l ?c ?k; (case a => k_is); (case l => k_is); (case c => k_is); (case k => k_is))
      (case f__law_points => refine' Ea.at_mk KX G ?a ?l ?c ?k; (case a => k_is); (case l => k_is); (case c => k_is); (case k => k_is))
      (case f__law_steps_seen => refine' Ea.at_mk KX G ?a ?l ?c ?k; (case a => k_is); (case l => k_is); (case c => k_is); (case k => k_is))
      (case f__law_seen => refine' Ea.at_mk KX G ?a ?l ?c ?k; (case a => k_is); (case l => k_is); (case c => k_is); (case k => k_is))
      (case f__law_cable => refine' Ea.at_mk KX G ?a ?l ?c ?k; (case a => k_is); (case l => k_is); (case c => k_is); (case k => k_is))
      (case f__law_sixths => refine' Ea.at_mk KX G ?a ?l ?c ?k; (case a => k_is); (case l => k_is); (case c => k_is); (case k => k_is))
      (case f__law_leaks => refine' Ea.at_mk KX G ?a ?l ?c ?k; (case a => k_is); (case l => k_is); (case c => k_is); (case k => k_is))
      (case f__law_read => refine' Ea.at_mk KX G ?a ?l ?c ?k; (case a => k_is); (case l => k_is); (case c => k_is); (case k => k_is))
      (case f__law_leak => refine' Ea.at_mk KX G ?a ?l ?c ?k; (case a => k_is); (case l => k_is); (case c => k_is); (case k => k_is))
      (case f__law_places => refine' Ea.at_mk KX G ?a ?l ?c ?k; (case a => k_is); (case l => k_is); (case c => k_is); (case k => k_is))
      (case f__law_alone => refine' Ea.at_mk KX G ?a ?l ?c ?k; (case a => k_is); (case l => k_is); (case c => k_is); (case k => k_is))
      (case f_law => refine' Ea.at_mk KX G ?a ?l ?c ?k; (case a => k_is); (case l => k_is); (case c => k_is); (case k => k_is))
      (case b_abs => refine' Ea.nm_none KX G ?a; (case a => k_is))
      (case b_all => refine' Ea.nm_none KX G ?a; (case a => k_is))
      (case b_bool => refine' Ea.nm_none KX G ?a; (case a => k_is))
      (case b_int => refine' Ea.nm_none KX G ?a; (case a => k_is))
      (case b_isinstance => refine' Ea.nm_none KX G ?a; (case a => k_is))
      (case b_len => refine' Ea.nm_none KX G ?a; (case a => k_is))
      (case b_max => refine' Ea.nm_none KX G ?a; (case a => k_is))
      (case b_min => refine' Ea.nm_none KX G ?a; (case a => k_is))
      (case b_range => refine' Ea.nm_none KX G ?a; (case a => k_is))
      (case b_sorted => refine' Ea.nm_none KX G ?a; (case a => k_is))
      (case b_str => refine' Ea.nm_none KX G ?a; (case a => k_is))
      (case b_sum => refine' Ea.nm_none KX G ?a; (case a => k_is))
      (case b_tuple => refine' Ea.nm_none KX G ?a; (case a => k_is))
      (case c_ZERO => refine' Ea.cn_zero KX G ?a ?l; (case a => k_is); (case l => k_is))
      (case c_FREE_WORDS => refine' Ea.cn_str4 KX G ?a ?l; (case a => k_is); (case l => k_is))
      (case c_FREE => refine' Ea.cn_str2 KX G ?a ?l; (case a => k_is); (case l => k_is))
      (case c_EAST => refine' Ea.cn_str2 KX G ?a ?l; (case a => k_is); (case l => k_is))
      (case c_MOST_LENGTHS => refine' Ea.cn_int KX G ?a; (case a => k_is))
      (case c_MOST_NUMBER => refine' Ea.cn_int KX G ?a; (case a => k_is))
