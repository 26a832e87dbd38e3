/- A part of the proof: SA, SZ, GA, GB, GC, GD, GE, GF, GG, GH, GI, GJ, GK, GL, GN, GO, GP, GP2, GQ, GR. -/
import Derived.KernelRfl
import Derived.Test.YtmjfdiohjflnnaaGreatDoorP04
import Derived.Test.YtmjfdiohjflnnaaGreatDoorProg
set_option linter.all false
namespace Go.PV
open Go Go.Proofs.Tryz
set_option maxRecDepth 100000
noncomputable def typeTab:BT TypeInfo:= .ofL 10 0 [none,o t1,o t2,o t3,o t4,o t5,o t6,o t7,o t8,o t9,o t10,o t11,o t12,o t13,o t14,o t15,o t16,o t17,o t18,o t19,o t20,o t21,o t22,o t23,o t24,o t25,o t26,o t27,o t28,o t29,none,o t31,o t32,o t33,o t34,o t35,o t36,none,o t38,none,o t40,none,o t42,o t43,o t44,o t45,o t46,o t47,o t48,o t49,o t50,o t51,o t52,o t53,o t54,o t55,o t56,o t57,o t58,o t59,o t60,o t61,o t62,o t63,o t64,o t65,o t66,o t67,o t68,o t69,o t70,o t71,none,o t73,o t74,o t75,o t76,o t77,o t78,o t79,o t80,o t81,o t82,o t83,o t84,o t85,o t86,o t87,o t88,o t89,o t90,none,o t92,o t93,none,o t95,o t96,o t97,o t98,o t99,o t100,o t101,o t102,o t103,o t104,o t105,o t106,o t107,o t108,o t109,o t110,o t111,o t112,o t113,o t114,o t115,o t116,o t117,o t118,o t119,o t120,o t121,o t122,o t123,o t124,none,o t126,o t127,o t128,none,o t130,o t131,o t132,o t133,o t134,o t135,o t136,o t137,o t138,o t139,none,o t141,o t142,o t143,o t144,o t145,o t146,o t147,o t148,o t149,o t150,o t151,o t152,o t153,o t154,o t155,o t156,o t157,none,o t159,o t160,o t161,o t162,none,o t164,o t165,o t166,o t167,o t168,o t169,o t170,o t171,o t172,o t173,o t174,o t175,o t176,o t177,o t178,o t179,none,o t181,o t182,o t183,o t184,o t185,o t186,o t187,o t188,o t189,o t190,none,o t192,o t193,o t194,o t195,o t196,o t197,o t198,o t199,o t200,o t201,o t202,o t203,o t204,o t205,o t206,o t207,o t208,o t209,o t210,o t211,o t212,o t213,o t214,o t215,o t216,o t217,o t218,o t219,o t220,o t221,o t222,o t223,o t224,o t225,none,o t227,o t228,o t229,o t230,o t231,o t232,o t233,o t234,o t235,o t236,o t237,o t238,none,none,o t241,none,o t243,none,o t245,o t246,o t247,o t248,o t249,o t250,o t251,none,o t253,o t254,none,o t256,o t257,o t258,none,o t260,o t261,o t262,o t263,o t264,o t265,o t266,o t267,o t268,o t269,none,o t271,o t272,o t273,o t274,o t275,o t276,o t277,o t278,o t279,o t280,o t281,o t282,o t283,o t284,none,o t286,o t287,o t288,o t289,o t290,o t291,o t292,o t293,o t294,o t295,o t296,o t297,o t298,o t299,o t300,o t301,o t302,o t303,o t304,o t305,o t306,o t307,o t308,o t309,o t310,o t311,o t312,o t313,o t314,o t315,o t316,o t317,o t318,o t319,o t320,o t321,none,o t323,o t324,o t325,o t326,none,o t328,o t329,o t330,o t331,o t332,o t333,o t334,o t335,o t336,o t337,o t338,o t339,o t340,o t341,o t342,o t343,o t344,o t345,o t346,o t347,o t348,o t349,o t350,o t351,o t352,o t353,o t354,o t355,o t356,o t357,o t358,o t359,o t360,o t361,o t362,o t363,o t364,none,o t366,o t367,o t368,o t369,none,o t371,o t372,o t373,o t374,o t375,o t376,o t377,o t378,o t379,o t380,o t381,o t382,o t383,o t384,o t385,o t386,o t387,o t388,o t389,o t390,o t391,o t392,o t393,o t394,o t395,o t396,o t397,o t398,o t399,o t400,o t401,o t402,o t403,o t404,o t405,o t406,o t407,o t408,o t409,o t410,o t411,o t412,o t413,o t414,o t415,o t416,o t417,o t418,o t419,o t420,o t421,o t422,o t423,none,o t425,o t426,o t427,o t428,o t429,o t430,o t431,o t432,o t433,o t434,o t435,o t436,o t437,o t438,o t439,o t440,o t441,o t442,o t443,o t444,o t445,o t446,none,o t448,o t449,o t450,o t451,o t452,o t453,o t454,o t455,o t456,o t457,o t458,o t459,o t460,o t461,o t462,o t463,o t464,o t465,none,o t467,o t468,o t469,o t470,o t471,o t472,o t473,o t474,o t475,o t476,o t477,o t478,o t479,o t480,o t481,o t482,o t483,o t484,o t485,o t486,o t487,o t488,o t489,o t490,o t491,o t492,o t493,o t494,o t495,o t496,none,o t498,o t499,o t500,o t501,o t502,o t503,o t504,o t505,o t506,o t507,o t508,o t509,o t510,o t511,o t512,o t513,o t514,o t515,o t516,none,o t518,o t519,o t520,o t521,o t522,o t523,o t524,o t525,o t526,o t527,o t528,o t529,o t530,o t531,o t532,o t533,o t534,o t535,o t536,o t537,o t538,o t539,o t540]
noncomputable def funcTab:BT Func:= .ofL 10 0 [none,none,none,o f3,o f4,o f5,o f6,o f7,o f8,o f9,o f10,o f11,o f12,o f13,o f14,o f15,o f16,o f17,o f18,o f19,o f20,o f21,o f22,o f23,o f24,o f25,o f26,o f27,o f28,o f29,o f30,o f31,o f32,o f33,o f34,o f35,o f36,o f37,o f38,o f39,o f40,o f41,o f42,o f43,o f44,o f45,o f46,o f47,o f48,o f49,o f50,o f51,o f52,o f53,o f54,o f55,o f56,o f57,o f58,o f59,o f60,o f61,o f62,o f63,o f64,o f65,o f66,o f67,o f68,o f69,o f70,o f71,o f72,o f73,o f74,o f75,o f76,o f77,o f78,o f79,o f80,o f81,o f82,o f83,o f84,o f85,o f86,o f87,o f88,o f89,o f90,o f91,o f92,o f93,o f94,o f95,o f96,o f97,o f98,o f99,o f100,o f101,o f102,o f103,o f104,o f105,o f106,o f107,o f108,o f109,o f110,o f111,o f112,o f113,o f114,o f115,o f116,o f117,o f118,o f119,o f120,o f121,o f122,o f123,o f124,o f125,o f126,o f127,o f128,o f129,o f130,o f131,o f132,o f133,o f134,o f135,o f136,o f137,o f138,o f139,o f140,o f141,o f142,o f143,o f144,o f145,o f146,o f147,o f148,o f149,o f150,o f151,o f152,o f153,o f154,o f155,o f156,o f157,o f158,o f159,o f160,o f161,o f162,o f163,o f164,o f165,o f166,o f167,o f168,o f169,o f170,o f171,o f172,o f173,o f174,o f175,o f176,o f177,o f178,o f179,o f180,o f181,o f182,o f183,o f184,o f185,o f186,o f187,o f188,o f189,o f190,o f191,o f192,o f193,o f194,o f195,o f196,o f197,o f198,o f199,o f200,o f201,o f202,o f203,o f204,o f205,o f206,o f207,o f208,o f209,o f210,o f211,o f212,o f213,o f214,o f215,o f216,o f217,o f218,o f219,o f220,o f221,o f222,o f223,o f224,o f225,o f226,o f227,o f228,o f229,o f230,o f231,o f232,o f233,o f234,none,o f236,o f237,o f238,o f239,o f240,o f241,o f242,o f243,o f244,o f245,o f246,o f247,o f248,o f249,o f250,o f251,o f252,o f253,o f254,o f255,o f256,o f257,o f258,o f259,o f260,o f261,o f262,o f263,o f264,o f265,o f266,o f267,o f268,o f269,o f270,o f271,o f272,o f273,o f274,o f275,o f276,o f277,o f278,o f279,o f280,o f281,o f282,o f283,o f284,o f285,o f286,o f287,o f288,o f289,o f290,o f291,o f292,o f293,o f294,o f295,o f296,o f297,o f298,o f299,o f300,o f301,o f302,o f303,o f304,o f305,o f306,o f307,o f308,o f309,o f310,o f311,o f312,o f313,o f314,o f315,o f316,o f317,o f318,o f319,o f320,o f321,o f322,o f323,none,o f325,o f326,o f327,o f328,o f329,o f330,o f331,o f332,o f333,o f334,o f335,o f336,o f337,o f338,o f339,o f340,o f341,o f342,o f343,o f344,o f345,o f346,o f347,o f348,o f349,o f350,o f351,o f352,o f353,o f354,o f355,o f356,o f357,o f358,o f359,o f360,o f361,o f362,o f363,o f364,o f365,o f366,o f367,o f368,o f369,o f370,o f371,o f372,o f373,o f374,o f375,o f376,o f377,o f378,o f379,o f380,o f381,o f382,o f383,o f384,o f385,o f386,o f387,o f388,o f389,o f390,o f391,o f392,o f393,o f394,o f395,o f396,o f397,o f398,o f399,o f400,o f401,o f402,o f403,o f404,o f405,o f406,o f407,none,o f409,o f410,o f411,o f412,o f413,o f414,o f415,o f416,o f417,o f418,o f419,o f420,o f421,o f422,o f423,o f424,o f425,o f426,o f427,none,o f429,o f430,o f431,o f432,o f433,o f434,o f435,o f436,o f437,o f438,o f439,o f440,o f441,o f442,o f443,o f444,o f445,o f446,o f447,o f448,o f449,o f450,o f451,o f452,o f453,o f454,o f455,o f456,o f457,o f458,none,o f460,o f461,o f462,o f463,o f464,o f465,o f466,o f467,o f468,o f469,o f470,o f471,o f472,o f473,o f474,o f475,o f476,o f477,o f478,o f479,o f480,o f481,o f482,o f483,o f484,o f485,o f486,o f487,o f488,o f489,o f490,o f491,o f492,o f493,none,o f495,o f496,o f497,o f498,o f499,o f500,o f501,o f502,o f503,none,none,o f506,o f507,o f508,o f509,o f510,o f511,o f512,o f513,none,o f515,o f516,o f517,o f518,o f519,o f520]
abbrev z {α:Type}:Option α:=none
noncomputable def locTab:BT (List Nat):= .ofL 10 0 [z,z,z,o [3],o [3,4],o [2,9,11],o [1,2,3,4,5],o [1],o [1],o [1],o [1,7],z,o [2],o [2],o [3,9],o [3,8,12,16],o [1],o [1],o [1],o [1],o [1],o [1,7],o [1],o [1,13],z,o [1],o [2,3,4],o [2,3,4],o [5,6,9,16,17],o [2,3,5],z,o [2],z,o [2,4,6,11],o [2],o [2,12],z,o [1],z,z,z,o [2,3,4,5],o [1,4],o [3],o [4,6,8,16,20],o [7],o [1],o [3,6,7,11],o [3],z,o [2],o [2],o [4],o [6,7],o [2,3],z,z,z,z,o [5],z,z,o [2],o [10],z,o [2,3,5],o [1,2,5],o [1],o [1,2,4,9],o [1,7,9],o [8,9],o [4,5],z,z,o [1,2,3],o [1],o [3],z,o [7],o [4,7],z,o [4],z,o [3,5],o [3],o [5],o [3,7],o [3,6],o [1],o [4,6,7],o [8,9],o [2,3],z,z,o [8,9],o [2,3],o [2,3],z,z,z,z,z,z,z,o [8],o [3],o [4,5],o [2,7,9,11],z,o [3,4,5,10,12,19],o [4,6],o [2,3,7,11,13],o [4,6,11,13,19,21,23,25],o [1,3,6,9],o [1,2],o [1,5],o [3,9],o [1],z,z,z,o [2],o [2],z,z,o [2,8],o [3],z,z,o [5],o [4],o [1],z,z,z,z,o [3],o [1,3],o [4,6],o [4,6],o [2],o [4,6],o [4],z,o [4,6,7,11,13],o [4,6,7,10],z,z,o [8,9],o [2,3],z,z,z,z,z,z,z,z,z,z,z,z,z,z,z,z,z,o [5],z,z,z,z,z,z,o [3],o [1,5,7,9],z,o [1,5,7,9,11,13],o [1],z,o [1],o [4,7],o [2,3,6],o [2,3],o [2,3,7],o [6,10,12],o [9,11],o [4],z,o [3,6],o [2,4,9,11],o [2],o [4,6,7,12,15],z,o [3],o [1,4,6],o [3],o [1],o [3,4,6,9,11,14],o [4,5],o [2,10,12],o [4,6,11,13,15],o [2,4,7,9,11],z,o [2,4],o [3,4,6],o [3,4,6,7],z,z,z,z,z,o [3,6,7,10],o [1,2],o [3],z,z,z,o [1,5],o [10],o [5,6,12],o [6,7,10,14,15,18,21,23,26],z,z,z,z,z,o [2,5],z,z,z,z,o [4,6,7,15,18,19,23],o [4],o [5],z,z,z,z,z,z,z,z,z,z,z,o [8],z,z,z,z,o [2],o [2],o [2],z,z,z,o [3,8],o [1],o [1,4,6,8],o [1,5,7],o [2],z,o [2,3,5,8],o [2,3,8,13],o [1,4],o [3,6,8,10],o [4,6],o [2,3],o [3],z,z,o [3],z,z,o [1,5,7,9],z,o [1,5,7,9,11,13],o [1],z,o [5],z,z,z,o [5],z,o [3],z,z,o [3],o [5,9],o [2],o [3],o [6,8],z,o [5],o [8,10],z,o [6,11],z,o [4,5,7,9,11],z,z,z,o [3,6,9,11],o [7],o [3,4],o [7],o [3,4,5,7,9],z,z,o [1],o [4],z,o [5,7,8,10,11],o [2],o [4],z,z,o [2,3],z,o [5],o [3,5],o [3],z,z,z,o [6,7],z,z,z,o [8],o [1,2,3],o [5,8,9],o [5],z,z,z,o [5,6,7,8,9,11,17],z,z,z,z,z,z,z,z,z,z,z,z,z,z,z,z,z,z,o [4],z,z,z,z,z,z,z,z,z,o [2],z,o [2,3],z,o [1],o [2,8],z,z,o [2,3],o [1,5],o [1],o [2,7,9],o [1],o [2,3],z,z,z,z,o [2],o [2],z,z,z,o [1,5],o [5],o [3],z,o [3],z,z,z,o [2],o [2],z,o [8,10],o [1,2],z,o [4,8],z,o [1],z,z,z,z,z,z,z,z,o [8,9],z,z,z,z,z,o [4,6],o [4,6],o [11],z,z,z,o [2],z,z,z,z,z,z,z,o [4,5],z,z,o [4,6],o [6],z,o [2,5],z,z,z,z,z,z,z,z,z,z,o [3],z,z,z,z,o [9],z,z,z,z,z,z,z,z,z,o [3],o [4,6,7],o [1,2],o [4,6,7,9],o [4,6,10,12],o [4,6,7,9,12,13,15],z,z,z,z,o [6,7],o [4,6,7,9],z,z,z,z,z,z,z,z,z,z,z,z,o [9],o [3,4],o [2,3],z,o [4,6,9],o [6,8,11,13],z,o [10],z,z,z,z,z,z,z,o [4,9,14],o [3],o [6],o [2],o [4],o [2],o [4,6,7],z,z,o [1,2],o [2],o [2],o [2],o [2]]
def keepL:List Nat:= [42,45,58,74,77,78,101,114,129,154,156,202,203,210,231,235,266,284,299,301,302,304,309,310,311,313,324,327,332,341,342,393,400,401,402,425,453,456,494]
noncomputable def drawTab:BT (List (Nat×Nat×List Nat)):= .ofL 10 0 [z,z,z,o [(5,0,[27,2,27,2,0,0,0,0,2,0,0,0,0,0,0,0])],o [(1,0,[0,35,0,35,0,0]),(54,0,[0,27,0,0,4,0,0,0,27,0,0,4,0,0,0,0,4,0])],z,z,z,z,z,z,o [(6,0,[0,0,0,4,0,0,0,4,0])],z,z,z,o [(12,0,[0,67,0,99,0,67,0,99,0,4,0,0,1,2,0,2]),(23,0,[0,0,131,0,4,0,0,0,4,0,0])],z,z,z,z,z,z,z,z,o [(6,0,[0,0,0,4,0,0,0,4,2,0])],z,z,o [(4,0,[0,2,27,2,0,0,35,0])],o [(2,0,[4,0,0,43,51,2,0,0,0,75,2,0,0,0,0,0,0,92,75,2,0,0,0,0,0,0,164,75,2,0,0]),(17,0,[0,0,0,4,1,75,139,2,0,0])],o [(3,0,[19,0,27,0,4,2,0,0,0,0,43,0])],z,z,z,o [(2,3,[0,6,0,14,0,22,0,0,51]),(6,0,[0,51,0,0,51,0,0,51,0,0,2,0,2,0,2]),(17,0,[0,51,0,91,0,51,0,91,0,51,0,91,0,0,0,51,0,0,4,0,0,2,0,2,0,2])],z,o [(18,0,[0,0,99,0,0,0,4,0,0,2])],o [(3,0,[0,0,0,0,0,0,0,4,0,0,0,4,0,2,0,2])],o [(2,3,[11,1,0,2,0,6,0,14,0,22,0])],z,z,z,o [(5,0,[0,43,19,27])],o [(6,0,[11,35,0,35,2,0,2,0,0])],o [(1,0,[4,0,0,0,4,0,27,4,0,2,0,0,0,27,0,0,0,0,84,0,0,0,84,0,0,0,27,0,0,0,0])],o [(23,0,[0,67,0,131,2,2,2,0,0,0,0,1805,0,1,2,0,67,0])],o [(1,2,[0,0,0,0,4,0,0,0,0,4,2,6,0,14,0]),(2,0,[0,0,0,0,4,0,0,0,0,4,0,0]),(8,0,[0,0,0,4,0,59,0,2])],z,o [(17,0,[0,0,91,2,0,59,0,0,141,2,0])],z,z,z,z,z,z,z,z,z,z,o [(9,0,[0,0,0,0,0,0,0,2,0,0])],o [(0,0,[0,0,0,4,0,0,0,0,4,0,0,0,0,4,0,0,0,4,0,2,0,2]),(2,0,[0,0,0,0,65549,0,0,0,0,4,0,1,2,0,0,2,0,2]),(9,0,[0,0,0,4,0,0,0,0,4,0,0,4,0,0,0,4,0,0,4,0,0,2]),(11,0,[0,0,0,4,0,0,0,0,4,0,0,4,0,0,0,4,0,0,4,0,0,2]),(13,0,[0,0,0,4,0,0,4,0,0,0,4,0,0,4,0]),(21,0,[0,0,0,0,0,262157,0,0,0,0,0,4,0,1,2,0,0,2,0,0,2])],z,o [(1,0,[0,0,4,0,0,4,0,0])],z,z,z,o [(3,0,[0,43,19,27])],z,z,z,o [(2,0,[2,0,11,2,2,0,0]),(5,0,[0,0,0,2061,0,11,0,2,2]),(10,0,[0,0,0,4,0,59,59,2]),(15,0,[0,0,0,4,0,75,75,2])],z,o [(1,0,[0,0,0,4,43,2,0,0,0,0,1049093,0,0,0,52,43,2,0,35,2,0,0])],z,o [(1,0,[4,0,0,0,4,0,4,0,2,0,0])],o [(5,0,[0,27,0,2,2,2,0,27])],z,o [(8,0,[4,4,0,2])],z,o [(5,0,[0,0,0,2359309,0,0,59,0,0,0,4,0,0,59,2,0,1,2,2])],z,z,z,z,z,z,o [(7,0,[4,77,2,2])],z,z,z,z,z,z,z,z,z,z,z,z,z,z,z,z,o [(17,0,[0,0,0,0,0,0,0,0,4,0,0,0,4,2,0,0,0])],z,z,z,o [(6,0,[0,2,0,0,0,0,20,0,0,0,20,0,0,0]),(9,0,[0,0,0,0,4,35,43])],z,z,o [(21,0,[1,0,27,2,0,27,1,2,0])],o [(0,0,[1,0,0,0,0,4,2,0,0,0,0,1037,2,0]),(12,0,[0,0,0,0,4,0,35,2,0,0,0,0,35,0,35,2,0,0])],z,o [(36,0,[0,0,0,0,4,155,2,0,0,0,155,2,0,0]),(42,0,[0,0,0,0,4,0,0,0,171,0,0,0,0,0,4,0,0,0]),(51,0,[0,2,0,0,0,0,0,20,203,2,0,0,0,203,0,0,0,0,84,0,0,0,84,2,0,0,0])],o [(7,0,[11,0,11,2,0,2,0])],z,z,z,z,z,z,z,z,z,z,z,o [(8,0,[0,67,0,0,0,4,0,0,0,0,67,2,0,0])],z,z,z,z,z,z,z,z,o [(1,0,[0,0,0,4,2,0,0,0,269,0,2,0])],o [(1,0,[32781,0,0,32781,0,0,0,32781,32781,0,32781,2,2]),(2,0,[4,2,0,0,45,0,0,2,0])],z,o [(19,0,[0,11,0,11,0,27,0,27])],z,z,z,z,z,z,o [(11,0,[35,0,91,0,59,0,0,4,2,0]),(18,0,[35,0,107,0,59,0,0,0,2,0])],o [(3,0,[0,35,0,35,59,2,0,51,2,0])],z,z,z,z,z,o [(6,0,[0,0,0,4,0,0,0,4,0])],z,z,z,z,z,o [(4,0,[0,0,0,0,0,0,0,0,4,0,0,0,0,4,2,0,0]),(6,0,[0,0,0,0,0,0,0,0,0,4,0,0,0,4,0,2,0,2])],o [(10,0,[0,0,0,0,0,0,0,0,0,0,0,4,0,0,0,4,0,2,0,2])],o [(10,0,[0,0,0,0,0,0,0,0,0,0,0,4,0,0,0,4,0,2,0,2])],z,o [(3,0,[0,0,0,0,0,0,0,4,0,0,0,4,0,2,0,2])],o [(5,0,[0,0,0,0,0,0,0,0,4,0,0,0,0,4,2,0,0,0]),(11,0,[0,0,0,0,0,0,0,0,0,4,0,0,0,4,0,2,0,2]),(16,0,[0,0,0,0,4,0,0,0,0,4,2,0,0]),(17,0,[0,0,0,0,0,0,0,0,0,4,0,0,0,4,0,2,0,2]),(22,0,[0,0,0,0,4,0,0,0,0,4,2,0,0]),(23,0,[0,0,0,0,0,0,0,0,0,4,0,0,0,4,0,2,0,2])],o [(1,0,[0,0,0,0,0,0,0,4,0,0,0,4,0,2,0,2]),(3,0,[0,0,0,0,0,0,0,0,4,0,0,0,4,2,0,0,0]),(5,0,[0,0,0,0,0,0,0,0,4,0,0,0,4,2,0,0]),(8,0,[0,0,0,0,0,0,0,4,0,0,0,4,0,2,0,2])],o [(1,0,[0,0,0,0,0,0,0,4,0,0,0,4,0,2,0,2]),(3,0,[0,0,0,0,0,0,0,0,4,0,0,0,4,2,0,0]),(5,0,[0,0,0,0,0,0,0,0,4,0,0,0,4,2,0,0,0]),(8,0,[0,0,0,0,0,0,0,4,0,0,0,4,0,2,0,2]),(10,0,[0,0,0,0,0,0,0,4,0,0,0,4,0,2,0,2]),(13,0,[0,0,0,0,0,0,0,0,4,0,0,0,4,2,0,0]),(15,0,[0,0,0,0,0,0,0,0,4,0,0,0,4,2,0,0,0]),(18,0,[0,0,0,0,0,0,0,4,0,0,0,4,0,2,0,2]),(21,0,[0,0,0,0,0,0,0,4,0,0,0,4,0,2,0,2])],z,z,o [(9,0,[0,0,0,4,0,43])],z,o [(3,0,[0,0,0,4,0,0,0,4,0,0])],z,o [(5,0,[0,0,0,4,0,0,0,4,0,0,0,4,0])],z,z,o [(8,0,[0,0,0,0,0,0,4109,0,2,1,2,0,0,0,0,2]),(15,0,[0,0,0,0,0,0,4,27,1,2,0,0,0,0,2]),(21,0,[0,0,0,0,0,0,4109,0,2,1,2,0,0,0,0,2]),(23,0,[0,0,0,0,0,0,4,0,0,0,0,0,0,4,0,0,2]),(27,0,[0,0,0,0,0,0,4,0,0,0,0,0,0,4,0,0,2])],o [(4,0,[2,0,11,2,0,11,2,0,0])],z,o [(5,0,[0,0,43,0,43,2,2,0,43,2,0]),(7,0,[2,0,11,2,0,11,2,0,0]),(18,0,[0,0,91,2,2,0,91,2,0])],z,z,z,z,z,z,z,z,z,o [(1,0,[0,0,0,0,4,35,2,0,0,0,0,0])],z,o [(3,0,[2,0,27,2,0,27,2,0,0])],z,z,o [(2,0,[0,0,0,4,0,51,2,0,0,0,0,0,0,59,0,0,0]),(13,0,[0,51,0,0,0,0,0,0,0,4,0,51,2,0,0,0,0,51,0,59,2,0,0]),(17,0,[0,0,0,0,0,0,4,123,2,0,0,0,123,0,59,2,0,0])],z,z,z,z,o [(4,0,[0,11,2,0,0,0,11,0,2,0,0,0,0,11,2,0,11,2,2,2,0,0])],o [(5,0,[0,0,0,4,0,0,27,2,0,0,0,0,51,0]),(8,0,[0,35,0,0,27,0,27,2,0,27,2,2]),(12,0,[0,0,0,4,75,2]),(18,0,[0,0,0,4,91,2,0]),(22,0,[35,0,0,27,2,2,2])],o [(1,0,[0,0,0,0,4,0,0,0,0,4,2,2,0,0]),(7,0,[0,0,0,4,0,35,2,0,0])],o [(1,0,[0,0,0,4,0,0,0,0,4,2,0]),(2,0,[19,0,0,0,0,4,2]),(5,0,[19,0,0,0,0,4,2]),(6,0,[0,0,0,0,4,0,0,0,0,0,4,0,0,0]),(7,0,[19,0,0,0,0,4,2]),(18,0,[0,99,0,0,0,0,0,0,4,0,99,2,0])],o [(10,0,[0,91,0,35,0,0,2]),(11,0,[0,0,91,2,2,0,0,91,2,0,0]),(19,0,[51,0,2,0,2,2])],o [(3,0,[4,0,19,2,0,19,141,0,2,4237,0,19,2,69773,0,19,2,1118349,0,19,2,17895565,0,19,2,286331021,0,19,2,0,0,59]),(7,0,[0,59,4,0,75,2,525,0,75,2,8717,0,75,2,0,75,0,75,0,2,2,0,59]),(12,0,[0,59,4,91,2,2,2,0,59])],z,o [(2,0,[0,19,0,0,2,0,0,0,19,0,35])],o [(11,0,[27,0,35,0,0,2,0,0,35,0,2,1,2,0,0,0,0,151077389,35,0,2,0,0,2,2,2,0,2,51])],o [(5,0,[27,0,35,0,0,2,0,59,35,0,2,0,0,2,2,2,0,35,0,2,2,2,59,1,2,2,2,51])],z,z,z,z,z,o [(17,0,[0,0,83,2,0,59,0,0,141,2,0]),(24,0,[0,27,0,0,4,2,0,0,0,0,0,0,27,0,0,0,52,0,27,0,0,52,2,0,0,0])],o [(1,0,[0,11,2,0,11,2,0,11,0,11])],o [(3,0,[0,0,0,0,27,2,2]),(5,0,[0,0,0,0,27,0,2,2]),(7,0,[0,0,0,0,27,0,0,2]),(9,0,[0,0,0,0,27,0,2]),(11,0,[0,0,0,0,27,0,2]),(15,0,[0,0,0,0,27,2]),(17,0,[0,0,0,0,27,0,2])],z,z,z,z,z,o [(6,0,[0,0,0,524301,0,0,524301,0,0,99,0,43,99,0,0,2,0,132,2,0])],o [(8,0,[0,0,0,4,115,1,0,2,0]),(22,0,[0,123,147,0,0,2,0,171,0,0,0,0,0,525,0,147,525,0,0,525,2,0,2]),(32,0,[0,0,211,0,0,0,0,4,0,0,0,4,0,0,0,4,2,2,2,0]),(37,0,[123,0,123,0,0,83,2])],z,z,z,z,z,z,z,z,z,z,o [(14,0,[0,35,123,0,51,0,0,4,0,51,0,0,0,4,59,2,2,0]),(27,0,[0,155,0,59,0,0,0,4,0,59,0,0,0,0,4,2,2,0,155])],z,o [(2,0,[0,2,0,0,43,0,1,2,0])],z,o [(17,0,[0,0,0,0,0,0,0,4,0,0,0,4,2,0,0])],o [(3,0,[0,0,0,0,0,0,0,0,0,0,0,4,0,0,0,0,0,0,4,2,0,0]),(5,0,[0,0,0,0,0,0,4,0,0,0,0,0,4,2,0,0]),(6,0,[0,0,0,0,0,0,0,0,0,0,0,0,0,4,0,0,0,0,0,4,0,2,0,2])],z,o [(1,0,[0,0,4,0,0,4,0,0,0,2]),(2,0,[0,0,4,0,0,4,0,0,0,2]),(3,0,[0,0,4,0,0,4,0,0,0,2])],z,z,o [(0,0,[0,0,0,4,0,0,0,4,0,0,0,0,0,0,4,0,0,0,4,0,2,0,0,2,0,0]),(1,0,[0,0,0,4,0,0,0,4,0,2]),(3,0,[0,0,0,4,0,0,0,4,0,0,0,0,0,0,4,0,0,0,4,0,0,0])],o [(0,0,[0,0,0,4,0,0,0,4,0,0]),(15,0,[0,0,0,0,4,0,0,0,4,0,0,0,4,0,0,0,0,0,2])],o [(2,0,[0,0,0,4,0,0,0,4,0,0])],o [(1,0,[0,2,0,0,0,0,20,0,0,0,20,0,0,0,0,0,0,0,20,0,0,0,20,0,0,20,0,0,0,0,0,0,0,20,0,0,0,20,0,0,20,0,0,0,0])],o [(2,0,[0,0,0,0,4,0,0,0,4,0,0,0,2])],o [(1,0,[0,2,0,0,0,0,20,0,0,0,20,0,0,0,0,0,0,0,20,0,0,0,20,0,0,20,0,0,0,0,0,0,20,0,0,0,20,0,0,20,2,0,0,0])],z,z,z,o [(6,0,[0,19,0,0,0,4,0,0,0,4,0,0,4,0,2,2,0,19]),(9,0,[0,19,0,0,0,4,0,0,0,4,0,0,4,0,2,2,0,19]),(10,0,[0,19,0,0,0,4,0,0,0,4,0,0,4,2,2,0,19]),(18,0,[0,0,0,4,0,0,0,4,0,0,4]),(25,0,[0,19,0,2,2,2,0,19]),(36,0,[0,0,0,0,0,0,4109,19,2,2,0,0,0,0,2])],o [(4,0,[0,19,0,2,2,2,0,19]),(7,0,[0,0,0,0,0,0,4,19,1,2,0,0,0,0,2])],o [(7,0,[0,0,0,0,0,4,19,1,2,0,0,0,2])],o [(10,0,[0,0,0,0,0,2061,0,2,1,2,0,0,0,2]),(20,0,[0,0,0,0,0,2061,0,2,1,2,0,0,0,2])],z,z,o [(1,0,[0,0,4,0,27,0,0,0,0,2])],z,o [(16,0,[11,0,67,2,0,67,2])],z,z,o [(4,0,[0,0,0,0,0,0,4,2])],z,o [(19,0,[19,0,0,0,0,4,2,0])],z,z,z,o [(15,0,[0,27,2,0,27,2,0,0,19,0,27,2,0,0,0])],z,z,o [(6,0,[0,0,0,0,0,2,0,0,0,2,2,0])],z,z,z,o [(12,0,[0,0,59,2,2,0,59,2,0])],z,o [(5,0,[0,0,43,0,43,2,2,0,43,2,0]),(18,0,[0,0,91,2,2,0,91,2,0])],z,z,z,z,z,z,z,z,o [(1,0,[0,27,0,0,0,0,27,2,0,0,0,0,0,0,68,0,27,2,0,0,0,0,0,148,0,27,2,0,27,2,0,0,0])],z,o [(2,0,[0,2,0,0,0,20,2,0,0,0,60,0,0,0,0,0,60,0,0,2,0,0,0,0,0,0,0,164,0,164,2,0,0])],z,o [(4,0,[0,0,0,4,75,2,0])],z,z,o [(1,0,[0,0,0,1037,0,67,2,0,2,0])],z,z,z,z,o [(9,0,[0,0,0,4,0,4,2,0,0,0,60,0,0,0,0])],z,o [(4,0,[0,0,0,0,4,0,0,0,59,0,0,0,0,0,4,0,0,0]),(14,0,[0,35,0,43,91,0,0,0,0,4,0,0,0,4,2])],z,z,o [(3,0,[0,0,0,0,0,0,0,0])],o [(3,0,[4,0,27,4,2,269,0,27,269,2,0,0,27,2,0,0,27,2,0,0,75]),(7,0,[0,75,4,0,91,2,525,0,91,2,0,2,2,0,75])],o [(5,0,[0,0,59,2,0,0,59,2,0,0,59,2,0,59,0,59,0,59])],z,z,o [(1,0,[0,0,27,2,0,0,27,2,0,27,0,27,0,0,43]),(7,0,[0,0,59,2,0,0,59,2,0,0,59,2,0,59,0,59,0,59]),(13,0,[0,43,0,0,75,2,0,2,2,0,43]),(18,0,[0,43,0,0,2,2,2,0,43])],o [(5,0,[0,0,0,0,0,0,2,0])],z,z,z,o [(5,0,[0,0,0,0,0,0,2,0])],z,z,z,z,z,o [(1,0,[0,19,0,27,2,0,19,0,27,2,0,19,0,27,2,0,19,0,27,2,2,2,0]),(4,0,[0,19,0,27,2,0,19,0,27,2,2,2,0])],z,z,o [(6,0,[0,0,0,0,43,0,2])],z,z,z,z,o [(1,0,[0,0,0,4,0,59,2,0]),(4,0,[0,51,0,0,0,59,2,0,60,0,60,0,0,0])],z,z,z,z,o [(5,0,[0,27,0,2,2,2,0,27])],o [(2,0,[0,0,0,4,43,0,2,0,75]),(3,0,[0,0,0,524301,0,0,524301,0,0,0,4,0,0,4,75,2,0,2,0])],z,z,z,z,o [(16,0,[43,0,67,0,75,0,0,0,0,4,2,0,0])],z,z,o [(11,0,[0,0,0,0,0,0,0,0,2]),(15,0,[0,0,0,0,0,0,0,0,2])],z,o [(4,0,[0,0,0,0,0,0,0,4,0,0,0,0,4,2,0]),(6,0,[0,0,0,0,0,0,0,0,0,4,0,0,0,4,0,2,0,2])],o [(10,0,[0,0,0,0,0,0,0,0,0,0,0,4,0,0,0,4,0,2,0,2])],o [(10,0,[0,0,0,0,0,0,0,0,0,0,0,4,0,0,0,4,0,2,0,2])],z,o [(3,0,[0,0,0,0,0,0,0,4,0,0,0,4,0,2,0,2])],o [(5,0,[0,0,0,0,0,0,0,4,0,0,0,0,4,2,0,0]),(11,0,[0,0,0,0,0,0,0,0,0,4,0,0,0,4,0,2,0,2]),(16,0,[0,0,0,4,0,0,0,0,4,2,0]),(17,0,[0,0,0,0,0,0,0,0,0,4,0,0,0,4,0,2,0,2]),(22,0,[0,0,0,4,0,0,0,0,4,2,0]),(23,0,[0,0,0,0,0,0,0,0,0,4,0,0,0,4,0,2,0,2])],z,o [(1,0,[0,0,0,0,0,0,0,4,0,0,0,4,0,2,0,2]),(3,0,[0,0,0,0,0,0,0,4,0,0,0,4,2,0,0]),(5,0,[0,0,0,0,0,0,0,4,0,0,0,4,2,0]),(8,0,[0,0,0,0,0,0,0,4,0,0,0,4,0,2,0,2])],o [(1,0,[0,0,0,0,0,0,0,4,0,0,0,4,0,2,0,2]),(3,0,[0,0,0,0,0,0,0,4,0,0,0,4,2,0]),(5,0,[0,0,0,0,0,0,0,4,0,0,0,4,2,0,0]),(8,0,[0,0,0,0,0,0,0,4,0,0,0,4,0,2,0,2]),(10,0,[0,0,0,0,0,0,0,4,0,0,0,4,0,2,0,2]),(13,0,[0,0,0,0,0,0,0,4,0,0,0,4,2,0]),(15,0,[0,0,0,0,0,0,0,4,0,0,0,4,2,0,0]),(18,0,[0,0,0,0,0,0,0,4,0,0,0,4,0,2,0,2]),(21,0,[0,0,0,0,0,0,0,4,0,0,0,4,0,2,0,2])],o [(1,0,[0,0,0,0,4,0,0,0,4,2,0])],z,o [(1,0,[0,0,0,4,0,0,0,0,4,0,0,0,0,0,0,0,0,4,0,0,0,4,0,0,0,4,0,0,0,0,0,0,0,0])],z,o [(0,0,[0,0,0,0,4,0,0,0,4,0,0,0,4,0,0,0,0,0,4,0,0,0,4,0,0,0,2])],o [(1,0,[0,0,0,4,0,0,0,4,0,35,0,35]),(2,0,[0,0,0,0,4,35,1,2,0,0,2])],o [(1,0,[0,0,0,4,0,0,0,0,0,4,0,0,0,0,0,0,4,0,0,0,4,0,0,0,2,0]),(2,0,[0,0,0,0,0,4,0,0,0,4,0,0,0,0,0,0,0,0])],o [(5,0,[0,0,0,0,4,0,0,0,4,0,0,0,0,0,0,0,0,0,4,0,2])],z,z,z,o [(1,0,[0,2,0,0,0,0,20,0,0,0,20,0,0,0,0,0,0,0,20,0,0,0,20,0,0,20,0,0,0,0])],z,o [(4,0,[0,0,0,4,0,0,0,4,0,0,4,0])],o [(1,0,[0,0,0,4,0,0,0,4,0,0]),(2,0,[0,0,0,4,0,0,0,4,0,0]),(3,0,[0,0,0,4,0,0,0,4,0,0,4,0,0,0,4,0,0,0,4,0,0,4,0,0])],z,z,z,o [(14,0,[0,0,0,0,0,2061,4,2,2,0,0,0,2])],z,o [(8,0,[0,67,0,0,0,4,0,0,0,0,67,2,0,0])],z,z,z,z,z,o [(3,0,[0,59,0,59,0,0,0]),(6,0,[0,75,0,75,0,0,0])],z,z,z,z,z,z,z,z,z,z,z,z,z,o [(1,0,[0,0,0,4,27,2,0])],z,z,z,z,z,z,z,z,o [(6,0,[4,0,67,2,141,0,67,141,2,4237,0,67,2,0,67,0,67,0,67]),(11,0,[0,67,0,4,0,83,2,0,0,2])],o [(1,0,[0,11,2,0,11,2,0,11,2,0,11,0,11,0,11])],z,o [(6,0,[4,0,35,2,0,0,35,2,0,35,0,35])],z,z,z,z,z,z,z,z,z,z,z,z,z,z,o [(7,0,[0,0,0,0,0,0,0,0,0,0,0,0,2,0,2]),(8,0,[0,0,0,0,0,0,0,0,0,0,0,0,2,0,2]),(9,0,[0,0,0,0,0,0,0,0,0,0,0,0,2,0,2]),(10,0,[0,0,0,0,0,0,0,0,0,0,0,0,2,0,2]),(17,0,[0,0,0,0,0,0,0,0,0,0,0,0,2,0,2]),(18,0,[0,0,0,0,0,0,0,0,0,0,0,0,2,0,2]),(23,0,[0,0,0,0,0,0,0,0,0,0,0,0,2,0,2])],z,o [(1,0,[0,0,0,1037,0,35,2,0,2,0])],z,z,z,z,z,z,z,z,o [(3,0,[0,0,0,0,0,0,0,0,0,0,4,0,0,0,0,0,0,4,2,0]),(5,0,[0,0,0,0,0,4,0,0,0,0,0,4,2,0]),(6,0,[0,0,0,0,0,0,0,0,0,0,0,0,0,4,0,0,0,0,0,4,0,2,0,2])],z,z,z,z,o [(9,0,[0,0,0,4,0,0,0,4,0,4,0,43])],z,z,o [(19,0,[0,35,0,2,2,2,0,35]),(21,0,[0,0,0,0,4,35,1,2,0,0,2]),(25,0,[0,0,0,0,1037,0,2,1,2,0,0,2]),(11,0,[0,0,0,0,4,51,1,2,0,0,2])],z,z,z,o [(3,0,[0,0,0,0,0,0,0,0,0,0])],z,z,o [(6,0,[0,0,0,4,0,0,0,4,0])],z,o [(6,0,[0,0,0,4,0,0,0,4,2,0])],z,z,z,o [(6,0,[0,0,0,4,0,0,0,4,0])],z,o [(6,0,[0,0,0,4,0,0,0,0,4,0]),(11,0,[0,0,0,4,0,0,0,0,4,0])],o [(17,0,[0,0,0,0,0,0,0,4,0,0,0,4,2,0,0])],z,z,z,z,z,z,z,z,z,z,z,z,o [(1,0,[0,0,0,4,27,2,0])],z,z,o [(5,0,[0,59,0,75,0,2,0,2,0,59])],o [(7,0,[0,83,0,0,35,0,0,0,4,0,2,2]),(15,0,[0,0,0,0,4,0,0,0,0,4,2])],o [(3,0,[0,0,35,0,59,2,0,0,0,52,0,2,51]),(5,0,[0,0,0,4,0,35,2,0,0,0,0,75,0]),(10,0,[0,99,0,75,0,0,4,2]),(13,0,[0,0,0,4,0,35,2,0,0,0,0,107,0]),(16,0,[0,0,0,4,0,35,0,2,0,0,0,0,123,0])],z,z,o [(1,0,[0,0,0,4,0,0,0,4,2])],z,o [(10,0,[0,59,0,0,0,2,2,2,0,59])],o [(3,0,[0,2,0,0,0,0,0,20,0,0,0,20,0,0,20,0,35,0,0,0,0,0,0,20,0,0,0,20,0,0,20,0,35,0,0,0]),(7,0,[0,0,0,4,0,0,0,4,0,0,0,4,0,0,51]),(9,0,[0,2,0,0,0,0,0,20,0,0,0,20,0,0,20,2,0,0]),(21,0,[0,59,0,0,0,2,2,2,0,59]),(29,0,[0,75,0,0,0,2,2,2,0,75]),(31,0,[0,75,0,0,0,2,2,2,0,75])],z,o [(4,0,[0,0,0,0,0,0,0,4,0,0,0,0,4,2,0]),(6,0,[0,0,0,0,0,0,0,0,0,4,0,0,0,4,0,2,0,2])],o [(10,0,[0,0,0,0,0,0,0,0,0,0,0,4,0,0,0,4,0,2,0,2])],o [(10,0,[0,0,0,0,0,0,0,0,0,0,0,4,0,0,0,4,0,2,0,2])],z,o [(3,0,[0,0,0,0,0,0,0,4,0,0,0,4,0,2,0,2])],o [(5,0,[0,0,0,0,0,0,0,4,0,0,0,0,4,2,0,0]),(11,0,[0,0,0,0,0,0,0,0,0,4,0,0,0,4,0,2,0,2]),(16,0,[0,0,0,4,0,0,0,0,4,2,0]),(17,0,[0,0,0,0,0,0,0,0,0,4,0,0,0,4,0,2,0,2]),(22,0,[0,0,0,4,0,0,0,0,4,2,0]),(23,0,[0,0,0,0,0,0,0,0,0,4,0,0,0,4,0,2,0,2])],z,o [(1,0,[0,0,0,0,0,0,0,4,0,0,0,4,0,2,0,2]),(3,0,[0,0,0,0,0,0,0,4,0,0,0,4,2,0,0]),(5,0,[0,0,0,0,0,0,0,4,0,0,0,4,2,0]),(8,0,[0,0,0,0,0,0,0,4,0,0,0,4,0,2,0,2])],o [(1,0,[0,0,0,0,0,0,0,4,0,0,0,4,0,2,0,2]),(3,0,[0,0,0,0,0,0,0,4,0,0,0,4,2,0]),(5,0,[0,0,0,0,0,0,0,4,0,0,0,4,2,0,0]),(8,0,[0,0,0,0,0,0,0,4,0,0,0,4,0,2,0,2]),(10,0,[0,0,0,0,0,0,0,4,0,0,0,4,0,2,0,2]),(13,0,[0,0,0,0,0,0,0,4,0,0,0,4,2,0]),(15,0,[0,0,0,0,0,0,0,4,0,0,0,4,2,0,0]),(18,0,[0,0,0,0,0,0,0,4,0,0,0,4,0,2,0,2]),(21,0,[0,0,0,0,0,0,0,4,0,0,0,4,0,2,0,2])],z,z,z,z,o [(4,0,[0,19,0,0,4,27,2,0])],z,o [(2,0,[0,0,0,0,0,4,0,0,0,4,0,2,0,35,2,0,75])],o [(9,0,[141,4,91,2,0,67,0,0,141,2,0])],o [(9,0,[0,0,0,4,0,0,0,0,0,0,4,0,0,0,0,4,0,0,0,0]),(18,0,[0,0,0,4,0,0,0,0,0,0,4,0,0,0,0,4,0,0,0,0])],o [(9,0,[0,0,0,4,0,0,0,0,0,0,4,0,0,0,0,4,0,0,0,0])],o [(3,0,[0,0,0,0,0,0,0,4,0,0,0,4,0,2,0,2])],z,o [(3,0,[0,0,0,0,0,0,0,0,0,0,4,0,0,0,0,0,0,4,2,0]),(5,0,[0,0,0,0,0,4,0,0,0,0,0,4,2,0]),(6,0,[0,0,0,0,0,0,0,0,0,0,0,0,0,4,0,0,0,0,0,4,0,2,0,2])],z,z,z,z,o [(4,0,[0,75,0,35,0,0,4,2]),(12,0,[0,0,0,4,0,35,2,0,0]),(19,0,[0,0,0,4,0,115,0,0,0,4,2,0])],z,o [(4,0,[0,0,4,0,0,4,2,0,0,0,2,2,0,0,51,0]),(14,0,[0,0,0,4,0,0,0,4,0,0]),(21,0,[0,0,0,4,0,0,0,4,2,2,0,2,0,0,51,0]),(25,0,[0,0,0,0,4,2,0,0,0,525,2,2,2,0,0,51,0])],z,z,z,o [(11,0,[0,59,0,51,0,0,4,2,2,0,59]),(13,0,[51,0,0,4,2,0,0,0,0,0]),(24,0,[0,51,0,0,0,51,0,0,0,2,2,0,59]),(31,0,[0,51,0,0,0,0,0,2,2,0,59])],o [(1,0,[0,0,0,4,0,0,0,4,2])]]
noncomputable def locF (f t:Nat):Bool:=match locTab.get f with
 |some l=>memN t l
 |none=>false
def fU (k:IntKind) (l:List Nat):Val:= .fptr (l.map fun n=> .int k (.ofNat n)) 0
def globF (g:Nat):Val:=match g with
 |1=>fU .u8 [0,0,0,0,0,0,0,0,0,1,1,1,1,1,0,0,0,0,0,0,0,0,0,0,0,0,0,0,0,0,0,0,1,0,0,0,0,0,0,0,0,0,0,0,0,0,0,0,0,0,0,0,0,0,0,0,0,0,0,0,0,0,0,0,0,0,0,0,0,0,0,0,0,0,0,0,0,0,0,0,0,0,0,0,0,0,0,0,0,0,0,0,0,0,0,0,0,0,0,0,0,0,0,0,0,0,0,0,0,0,0,0,0,0,0,0,0,0,0,0,0,0,0,0,0,0,0,0,0,0,0,0,0,0,0,0,0,0,0,0,0,0,0,0,0,0,0,0,0,0,0,0,0,0,0,0,0,0,0,0,0,0,0,0,0,0,0,0,0,0,0,0,0,0,0,0,0,0,0,0,0,0,0,0,0,0,0,0,0,0,0,0,0,0,0,0,0,0,0,0,0,0,0,0,0,0,0,0,0,0,0,0,0,0,0,0,0,0,0,0,0,0,0,0,0,0,0,0,0,0,0,0,0,0,0,0,0,0,0,0,0,0,0,0,0,0,0,0,0,0,0,0,0,0,0,0]
 |2=>fU .u64 [1,10,100,1000,10000,100000,1000000,10000000,100000000,1000000000,10000000000,100000000000,1000000000000,10000000000000,100000000000000,1000000000000000,10000000000000000,100000000000000000,1000000000000000000,10000000000000000000]
 |4=>fU .u8 [0,1,28,2,29,14,24,3,30,22,20,15,25,17,4,8,31,27,13,23,21,19,16,7,26,12,18,6,11,5,10,9]
 |5=>fU .u8 [0,1,56,2,57,49,28,3,61,58,42,50,38,29,17,4,62,47,59,36,45,43,51,22,53,39,33,30,24,18,12,5,63,55,48,27,60,41,37,16,46,35,44,21,52,32,23,11,54,26,40,15,34,20,31,10,25,14,19,9,13,8,7,6]
 |_=> .bad
def eqTs:List Nat:= [313]
def liesF (e u:Nat):Bool:=(Nat.beq e 222&&Nat.beq u 222)||(Nat.beq e 316&&Nat.beq u 222)
noncomputable def E0:Env:= {T:=upto 541 typeTab,eqt:=fun t=>memN t eqTs,G:=globF,fns:=upto 550 funcTab,pure:=fun _=>false,keep:=fun f=>memN f keepL,loc:=locF,frz:=fun _=>false,prim:=fun _=>none,lies:=liesF}
noncomputable def okd:DrawT:=okdOf E0.fns drawTab
open Go Go.Proofs.Tryz
set_option maxRecDepth 100000
noncomputable def E1 (pr:Nat→Option (List Val→Hp→FRes)):Env:= {E0 with prim:=pr}
theorem memN_cons (x y l):memN x (y::l)=(Nat.beq x y||memN x l):=by simp only [memN];cases Nat.beq x y<;>rfl
theorem memN_nil (x):memN x []=false:=rfl
attribute [go_sem] memN_cons memN_nil
section
variable (pr:Nat→Option (List Val→Hp→FRes))
@[go_sem] theorem doCall_E1 (cf f args H tm) (h:args.all noLoc=true):doCall (E1 pr) cf f args H tm=retC (E1 pr) f H.n tm (cf f args H):=doCall_plain (E1 pr) cf f args H tm rfl h
@[go_sem] theorem mkFn_E1 (f a c tm H):opMakeFn (E1 pr) (.func f) a c tm H=if a.all noLoc&&c.all noLoc then .ok (.fn (.func f) a c) tm H else .fail:=by simp only [opMakeFn,opMakeFunc,show (E1 pr).frz f=false from rfl,okV_some];rfl
@[go_sem] theorem fns_4:(E1 pr).fns 4=some f4:=rfl
@[go_sem] theorem loc_4 (d):(E1 pr).loc 4 d=memN d [3,4]:=rfl
@[go_sem] theorem res_4 (tm H):resP (E1 pr) f4 tm H=res1 (getT tm 6) H:=resP_one _ _ _ _ _ rfl
@[go_sem] theorem ld_3 (p tm H):loadP (E1 pr) 3 p tm H=loadC 1 false (rowAtP tm H p):=by kernel_rfl
@[go_sem] theorem ld_25 (p tm H):loadP (E1 pr) 25 p tm H=loadC 2 true (rowAtP tm H p):=by kernel_rfl
@[go_sem] theorem len_46 (x H):lenP (E1 pr) 46 x H=lenS x:=len_sl _ _ 5 _ _ (by kernel_rfl)
@[go_sem] theorem len_28 (x H):lenP (E1 pr) 28 x H=lenS x:=len_sl _ _ 3 _ _ (by kernel_rfl)
@[go_sem] theorem ia_28 (x i):indexAddrP (E1 pr) 28 x i=ixA 1 x i:=indexAddr_sl _ _ 3 _ _ _ (by kernel_rfl) (by kernel_rfl)
@[go_sem] theorem fa_25_1 (p):fieldAddrP (E1 pr) 25 p 1=addP p 1:=by kernel_rfl
@[go_sem] theorem ld_23 (p tm H):loadP (E1 pr) 23 p tm H=loadC 1 false (rowAtP tm H p):=by kernel_rfl
@[go_sem] theorem ia_23 (x i):indexAddrP (E1 pr) 23 x i=ixA 1 x i:=indexAddr_sl _ _ 47 _ _ _ (by kernel_rfl) (by kernel_rfl)
@[go_sem] theorem ld_47 (p tm H):loadP (E1 pr) 47 p tm H=loadC 1 false (rowAtP tm H p):=by kernel_rfl
@[go_sem] theorem len_47 (x H):lenP (E1 pr) 47 x H=lenS x:=len_sl _ _ 51 _ _ (by kernel_rfl)
@[go_sem] theorem ia_47 (x i):indexAddrP (E1 pr) 47 x i=ixA 4 x i:=indexAddr_sl _ _ 51 _ _ _ (by kernel_rfl) (by kernel_rfl)
@[go_sem] theorem fa_51_1 (p):fieldAddrP (E1 pr) 51 p 1=addP p 3:=by kernel_rfl
@[go_sem] theorem fa_25_0 (p):fieldAddrP (E1 pr) 25 p 0=addP p 0:=by kernel_rfl
@[go_sem] theorem ld_22 (p tm H):loadP (E1 pr) 22 p tm H=loadC 1 false (rowAtP tm H p):=by kernel_rfl
@[go_sem] theorem len_22 (x H):lenP (E1 pr) 22 x H=lenS x:=len_sl _ _ 56 _ _ (by kernel_rfl)
@[go_sem] theorem len_36 (x H):lenP (E1 pr) 36 x H=lenS x:=len_sl _ _ 28 _ _ (by kernel_rfl)
@[go_sem] theorem ia_36 (x i):indexAddrP (E1 pr) 36 x i=ixA 1 x i:=indexAddr_sl _ _ 28 _ _ _ (by kernel_rfl) (by kernel_rfl)
@[go_sem] theorem ld_28 (p tm H):loadP (E1 pr) 28 p tm H=loadC 1 false (rowAtP tm H p):=by kernel_rfl
@[go_sem] theorem st_3 (p v tm H):storeP (E1 pr) 3 p v tm H=storeV 1 p v.cells tm H:=by kernel_rfl
@[go_sem] theorem ia_46 (x i):indexAddrP (E1 pr) 46 x i=ixA 1 x i:=indexAddr_sl _ _ 5 _ _ _ (by kernel_rfl) (by kernel_rfl)
@[go_sem] theorem ld_5 (p tm H):loadP (E1 pr) 5 p tm H=loadC 1 false (rowAtP tm H p):=by kernel_rfl
@[go_sem] theorem fns_5:(E1 pr).fns 5=some f5:=rfl
@[go_sem] theorem loc_5 (d):(E1 pr).loc 5 d=memN d [2,9,11]:=rfl
@[go_sem] theorem res_5 (tm H):resP (E1 pr) f5 tm H=res1 (getT tm 4) H:=resP_one _ _ _ _ _ rfl
@[go_sem] theorem len_23 (x H):lenP (E1 pr) 23 x H=lenS x:=len_sl _ _ 47 _ _ (by kernel_rfl)
@[go_sem] theorem ld_51 (p tm H):loadP (E1 pr) 51 p tm H=loadC 4 true (rowAtP tm H p):=by kernel_rfl
@[go_sem] theorem z_51:zeroT (E1 pr) 51=some (.agg [(.int .i64 (.ofNat 0)),.nilsl,(.int .i64 (.ofNat 0)),(.int .i64 (.ofNat 0))]):=by kernel_rfl
@[go_sem] theorem st_51 (p v tm H):storeP (E1 pr) 51 p v tm H=storeV 4 p v.cells tm H:=by kernel_rfl
@[go_sem] theorem fa_51_0 (p):fieldAddrP (E1 pr) 51 p 0=addP p 0:=by kernel_rfl
@[go_sem] theorem fa_49_1 (p):fieldAddrP (E1 pr) 49 p 1=addP p 1:=by kernel_rfl
@[go_sem] theorem ia_22 (x i):indexAddrP (E1 pr) 22 x i=ixA 2 x i:=indexAddr_sl _ _ 56 _ _ _ (by kernel_rfl) (by kernel_rfl)
@[go_sem] theorem ld_56 (p tm H):loadP (E1 pr) 56 p tm H=loadC 2 true (rowAtP tm H p):=by kernel_rfl
@[go_sem] theorem z_56:zeroT (E1 pr) 56=some (.agg [.nilsl,.nilsl]):=by kernel_rfl
@[go_sem] theorem st_56 (p v tm H):storeP (E1 pr) 56 p v tm H=storeV 2 p v.cells tm H:=by kernel_rfl
@[go_sem] theorem fns_25:(E1 pr).fns 25=some f25:=rfl
@[go_sem] theorem loc_25 (d):(E1 pr).loc 25 d=memN d [1]:=rfl
@[go_sem] theorem res_25 (tm H):resP (E1 pr) f25 tm H=res1 (getT tm 2) H:=resP_one _ _ _ _ _ rfl
@[go_sem] theorem fa_56_1 (p):fieldAddrP (E1 pr) 56 p 1=addP p 1:=by kernel_rfl
@[go_sem] theorem ld_54 (p tm H):loadP (E1 pr) 54 p tm H=loadC 1 false (rowAtP tm H p):=by kernel_rfl
@[go_sem] theorem len_54 (x H):lenP (E1 pr) 54 x H=lenS x:=len_sl _ _ 53 _ _ (by kernel_rfl)
@[go_sem] theorem ia_54 (x i):indexAddrP (E1 pr) 54 x i=ixA 1 x i:=indexAddr_sl _ _ 53 _ _ _ (by kernel_rfl) (by kernel_rfl)
@[go_sem] theorem ld_53 (p tm H):loadP (E1 pr) 53 p tm H=loadC 1 false (rowAtP tm H p):=by kernel_rfl
@[go_sem] theorem fa_56_0 (p):fieldAddrP (E1 pr) 56 p 0=addP p 0:=by kernel_rfl
@[go_sem] theorem fns_40:(E1 pr).fns 40=some f40:=rfl
@[go_sem] theorem loc_40 (d):(E1 pr).loc 40 d=memN d []:=rfl
@[go_sem] theorem res_40 (tm H):resP (E1 pr) f40 tm H=res1 (getT tm 2) H:=resP_one _ _ _ _ _ rfl
@[go_sem] theorem fns_64:(E1 pr).fns 64=some f64:=rfl
@[go_sem] theorem loc_64 (d):(E1 pr).loc 64 d=memN d []:=rfl
@[go_sem] theorem res_64 (tm H):resP (E1 pr) f64 tm H=res1 (getT tm 4) H:=resP_one _ _ _ _ _ rfl
@[go_sem] theorem fns_104:(E1 pr).fns 104=some f104:=rfl
@[go_sem] theorem loc_104 (d):(E1 pr).loc 104 d=memN d [8]:=rfl
@[go_sem] theorem res_104 (tm H):resP (E1 pr) f104 tm H=res1 (getT tm 6) H:=resP_one _ _ _ _ _ rfl
@[go_sem] theorem len_53 (x H):lenP (E1 pr) 53 x H=lenS x:=len_sl _ _ 71 _ _ (by kernel_rfl)
@[go_sem] theorem ia_53 (x i):indexAddrP (E1 pr) 53 x i=ixA 6 x i:=indexAddr_sl _ _ 71 _ _ _ (by kernel_rfl) (by kernel_rfl)
@[go_sem] theorem ld_71 (p tm H):loadP (E1 pr) 71 p tm H=loadC 6 true (rowAtP tm H p):=by kernel_rfl
@[go_sem] theorem z_71:zeroT (E1 pr) 71=some (.agg [(.int .i64 (.ofNat 0)),(.int .i64 (.ofNat 0)),(.str 0 0),(.str 0 0),.nilsl,.nilsl]):=by kernel_rfl
@[go_sem] theorem st_71 (p v tm H):storeP (E1 pr) 71 p v tm H=storeV 6 p v.cells tm H:=by kernel_rfl
@[go_sem] theorem fa_71_2 (p):fieldAddrP (E1 pr) 71 p 2=addP p 2:=by kernel_rfl
@[go_sem] theorem ld_9 (p tm H):loadP (E1 pr) 9 p tm H=loadC 1 false (rowAtP tm H p):=by kernel_rfl
@[go_sem] theorem fa_71_3 (p):fieldAddrP (E1 pr) 71 p 3=addP p 3:=by kernel_rfl
@[go_sem] theorem fa_71_4 (p):fieldAddrP (E1 pr) 71 p 4=addP p 4:=by kernel_rfl
@[go_sem] theorem fa_71_5 (p):fieldAddrP (E1 pr) 71 p 5=addP p 5:=by kernel_rfl
@[go_sem] theorem fns_10:(E1 pr).fns 10=some f10:=rfl
@[go_sem] theorem loc_10 (d):(E1 pr).loc 10 d=memN d [1,7]:=rfl
@[go_sem] theorem res_10 (tm H):resP (E1 pr) f10 tm H=res1 (getT tm 2) H:=resP_one _ _ _ _ _ rfl
@[go_sem] theorem fns_9:(E1 pr).fns 9=some f9:=rfl
@[go_sem] theorem loc_9 (d):(E1 pr).loc 9 d=memN d [1]:=rfl
@[go_sem] theorem res_9 (tm H):resP (E1 pr) f9 tm H=res1 (getT tm 2) H:=resP_one _ _ _ _ _ rfl
@[go_sem] theorem z_3:zeroT (E1 pr) 3=some (.int .i64 (.ofNat 0)):=by kernel_rfl
@[go_sem] theorem fns_30:(E1 pr).fns 30=some f30:=rfl
@[go_sem] theorem loc_30 (d):(E1 pr).loc 30 d=memN d []:=rfl
@[go_sem] theorem res_30 (tm H):resP (E1 pr) f30 tm H=res1 (getT tm 4) H:=resP_one _ _ _ _ _ rfl
@[go_sem] theorem fns_31:(E1 pr).fns 31=some f31:=rfl
@[go_sem] theorem loc_31 (d):(E1 pr).loc 31 d=memN d [2]:=rfl
@[go_sem] theorem res_31 (tm H):resP (E1 pr) f31 tm H=res1 (getT tm 3) H:=resP_one _ _ _ _ _ rfl
@[go_sem] theorem fns_55:(E1 pr).fns 55=some f55:=rfl
@[go_sem] theorem loc_55 (d):(E1 pr).loc 55 d=memN d []:=rfl
@[go_sem] theorem res_55 (tm H):resP (E1 pr) f55 tm H=res1 (getT tm 4) H:=resP_one _ _ _ _ _ rfl
@[go_sem] theorem fns_14:(E1 pr).fns 14=some f14:=rfl
@[go_sem] theorem loc_14 (d):(E1 pr).loc 14 d=memN d [3,9]:=rfl
@[go_sem] theorem res_14 (tm H):resP (E1 pr) f14 tm H=if noLoc (getT tm 6)&&noLoc (getT tm 7) then .ret (.tup [getT tm 6,getT tm 7]) H else .fail:=resP_two _ _ _ _ _ _ rfl
@[go_sem] theorem z_80:zeroT (E1 pr) 80=some (.agg [.nilsl,.nilsl,.nilsl]):=by kernel_rfl
@[go_sem] theorem st_80 (p v tm H):storeP (E1 pr) 80 p v tm H=storeV 3 p v.cells tm H:=by kernel_rfl
@[go_sem] theorem fa_80_2 (p):fieldAddrP (E1 pr) 80 p 2=addP p 2:=by kernel_rfl
@[go_sem] theorem fa_80_1 (p):fieldAddrP (E1 pr) 80 p 1=addP p 1:=by kernel_rfl
@[go_sem] theorem fa_80_0 (p):fieldAddrP (E1 pr) 80 p 0=addP p 0:=by kernel_rfl
@[go_sem] theorem fns_32:(E1 pr).fns 32=some f32:=rfl
@[go_sem] theorem loc_32 (d):(E1 pr).loc 32 d=memN d []:=rfl
@[go_sem] theorem res_32 (tm H):resP (E1 pr) f32 tm H=res1 (getT tm 4) H:=resP_one _ _ _ _ _ rfl
@[go_sem] theorem fns_33:(E1 pr).fns 33=some f33:=rfl
@[go_sem] theorem loc_33 (d):(E1 pr).loc 33 d=memN d [2,4,6,11]:=rfl
@[go_sem] theorem ld_80 (p tm H):loadP (E1 pr) 80 p tm H=loadC 3 true (rowAtP tm H p):=by kernel_rfl
@[go_sem] theorem fns_36:(E1 pr).fns 36=some f36:=rfl
@[go_sem] theorem loc_36 (d):(E1 pr).loc 36 d=memN d []:=rfl
@[go_sem] theorem res_36 (tm H):resP (E1 pr) f36 tm H= .ret (.tup []) H:=resP_nil _ _ _ _ rfl
@[go_sem] theorem fns_56:(E1 pr).fns 56=some f56:=rfl
@[go_sem] theorem loc_56 (d):(E1 pr).loc 56 d=memN d []:=rfl
@[go_sem] theorem res_56 (tm H):resP (E1 pr) f56 tm H=res1 (getT tm 4) H:=resP_one _ _ _ _ _ rfl
@[go_sem] theorem fns_57:(E1 pr).fns 57=some f57:=rfl
@[go_sem] theorem loc_57 (d):(E1 pr).loc 57 d=memN d []:=rfl
@[go_sem] theorem res_57 (tm H):resP (E1 pr) f57 tm H=res1 (getT tm 3) H:=resP_one _ _ _ _ _ rfl
@[go_sem] theorem fns_97:(E1 pr).fns 97=some f97:=rfl
@[go_sem] theorem loc_97 (d):(E1 pr).loc 97 d=memN d []:=rfl
@[go_sem] theorem res_97 (tm H):resP (E1 pr) f97 tm H=res1 (getT tm 4) H:=resP_one _ _ _ _ _ rfl
@[go_sem] theorem fns_16:(E1 pr).fns 16=some f16:=rfl
@[go_sem] theorem loc_16 (d):(E1 pr).loc 16 d=memN d [1]:=rfl
@[go_sem] theorem res_16 (tm H):resP (E1 pr) f16 tm H=if noLoc (getT tm 2)&&noLoc (getT tm 3) then .ret (.tup [getT tm 2,getT tm 3]) H else .fail:=resP_two _ _ _ _ _ _ rfl
@[go_sem] theorem fd_80_2 (l):fieldP (E1 pr) 80 (.agg l) 2=l[2]? :=by kernel_rfl
@[go_sem] theorem fns_18:(E1 pr).fns 18=some f18:=rfl
@[go_sem] theorem loc_18 (d):(E1 pr).loc 18 d=memN d [1]:=rfl
@[go_sem] theorem res_18 (tm H):resP (E1 pr) f18 tm H=if noLoc (getT tm 2)&&noLoc (getT tm 3) then .ret (.tup [getT tm 2,getT tm 3]) H else .fail:=resP_two _ _ _ _ _ _ rfl
@[go_sem] theorem fns_37:(E1 pr).fns 37=some f37:=rfl
@[go_sem] theorem loc_37 (d):(E1 pr).loc 37 d=memN d [1]:=rfl
@[go_sem] theorem res_37 (tm H):resP (E1 pr) f37 tm H=res1 (getT tm 2) H:=resP_one _ _ _ _ _ rfl
@[go_sem] theorem fa_119_1 (p):fieldAddrP (E1 pr) 119 p 1=addP p 2:=by kernel_rfl
@[go_sem] theorem fa_119_6 (p):fieldAddrP (E1 pr) 119 p 6=addP p 7:=by kernel_rfl
@[go_sem] theorem ld_36 (p tm H):loadP (E1 pr) 36 p tm H=loadC 1 false (rowAtP tm H p):=by kernel_rfl
@[go_sem] theorem fns_58:(E1 pr).fns 58=some f58:=rfl
@[go_sem] theorem loc_58 (d):(E1 pr).loc 58 d=memN d []:=rfl
@[go_sem] theorem res_58 (tm H):resP (E1 pr) f58 tm H=res1 (getT tm 4) H:=resP_one _ _ _ _ _ rfl
@[go_sem] theorem fns_98:(E1 pr).fns 98=some f98:=rfl
@[go_sem] theorem loc_98 (d):(E1 pr).loc 98 d=memN d []:=rfl
@[go_sem] theorem res_98 (tm H):resP (E1 pr) f98 tm H=if noLoc (getT tm 4)&&noLoc (getT tm 5) then .ret (.tup [getT tm 4,getT tm 5]) H else .fail:=resP_two _ _ _ _ _ _ rfl
@[go_sem] theorem fns_153:(E1 pr).fns 153=some f153:=rfl
@[go_sem] theorem loc_153 (d):(E1 pr).loc 153 d=memN d []:=rfl
@[go_sem] theorem res_153 (tm H):resP (E1 pr) f153 tm H=if noLoc (getT tm 4)&&noLoc (getT tm 5) then .ret (.tup [getT tm 4,getT tm 5]) H else .fail:=resP_two _ _ _ _ _ _ rfl
@[go_sem] theorem fns_59:(E1 pr).fns 59=some f59:=rfl
@[go_sem] theorem loc_59 (d):(E1 pr).loc 59 d=memN d [5]:=rfl
@[go_sem] theorem res_59 (tm H):resP (E1 pr) f59 tm H= .ret (.tup []) H:=resP_nil _ _ _ _ rfl
@[go_sem] theorem fa_119_2 (p):fieldAddrP (E1 pr) 119 p 2=addP p 3:=by kernel_rfl
@[go_sem] theorem fa_119_5 (p):fieldAddrP (E1 pr) 119 p 5=addP p 6:=by kernel_rfl
@[go_sem] theorem fa_119_4 (p):fieldAddrP (E1 pr) 119 p 4=addP p 5:=by kernel_rfl
@[go_sem] theorem ld_86 (p tm H):loadP (E1 pr) 86 p tm H=loadC 1 false (rowAtP tm H p):=by kernel_rfl
@[go_sem] theorem fa_119_3 (p):fieldAddrP (E1 pr) 119 p 3=addP p 4:=by kernel_rfl
@[go_sem] theorem st_28 (p v tm H):storeP (E1 pr) 28 p v tm H=storeV 1 p v.cells tm H:=by kernel_rfl
@[go_sem] theorem ia_86 (x i):indexAddrP (E1 pr) 86 x i=ixA 1 x i:=indexAddr_sl _ _ 4 _ _ _ (by kernel_rfl) (by kernel_rfl)
@[go_sem] theorem st_4 (p v tm H):storeP (E1 pr) 4 p v tm H=storeV 1 p v.cells tm H:=by kernel_rfl
@[go_sem] theorem fa_119_0 (p):fieldAddrP (E1 pr) 119 p 0=addP p 0:=by kernel_rfl
@[go_sem] theorem ld_4 (p tm H):loadP (E1 pr) 4 p tm H=loadC 1 false (rowAtP tm H p):=by kernel_rfl
@[go_sem] theorem st_36 (p v tm H):storeP (E1 pr) 36 p v tm H=storeV 1 p v.cells tm H:=by kernel_rfl
@[go_sem] theorem fns_99:(E1 pr).fns 99=some f99:=rfl
@[go_sem] theorem loc_99 (d):(E1 pr).loc 99 d=memN d []:=rfl
@[go_sem] theorem res_99 (tm H):resP (E1 pr) f99 tm H=res1 (getT tm 4) H:=resP_one _ _ _ _ _ rfl
@[go_sem] theorem fns_100:(E1 pr).fns 100=some f100:=rfl
@[go_sem] theorem loc_100 (d):(E1 pr).loc 100 d=memN d []:=rfl
@[go_sem] theorem res_100 (tm H):resP (E1 pr) f100 tm H=res1 (getT tm 2) H:=resP_one _ _ _ _ _ rfl
@[go_sem] theorem fns_101:(E1 pr).fns 101=some f101:=rfl
@[go_sem] theorem loc_101 (d):(E1 pr).loc 101 d=memN d []:=rfl
@[go_sem] theorem res_101 (tm H):resP (E1 pr) f101 tm H=res1 (getT tm 2) H:=resP_one _ _ _ _ _ rfl
@[go_sem] theorem fns_154:(E1 pr).fns 154=some f154:=rfl
@[go_sem] theorem loc_154 (d):(E1 pr).loc 154 d=memN d []:=rfl
@[go_sem] theorem res_154 (tm H):resP (E1 pr) f154 tm H=res1 (getT tm 2) H:=resP_one _ _ _ _ _ rfl
@[go_sem] theorem fns_155:(E1 pr).fns 155=some f155:=rfl
@[go_sem] theorem loc_155 (d):(E1 pr).loc 155 d=memN d []:=rfl
@[go_sem] theorem res_155 (tm H):resP (E1 pr) f155 tm H= .ret (.tup []) H:=resP_nil _ _ _ _ rfl
@[go_sem] theorem fns_156:(E1 pr).fns 156=some f156:=rfl
@[go_sem] theorem loc_156 (d):(E1 pr).loc 156 d=memN d []:=rfl
@[go_sem] theorem res_156 (tm H):resP (E1 pr) f156 tm H= .ret (.tup []) H:=resP_nil _ _ _ _ rfl
@[go_sem] theorem fns_60:(E1 pr).fns 60=some f60:=rfl
@[go_sem] theorem loc_60 (d):(E1 pr).loc 60 d=memN d []:=rfl
@[go_sem] theorem res_60 (tm H):resP (E1 pr) f60 tm H= .ret (.tup []) H:=resP_nil _ _ _ _ rfl
@[go_sem] theorem fns_61:(E1 pr).fns 61=some f61:=rfl
@[go_sem] theorem loc_61 (d):(E1 pr).loc 61 d=memN d []:=rfl
@[go_sem] theorem res_61 (tm H):resP (E1 pr) f61 tm H=res1 (getT tm 4) H:=resP_one _ _ _ _ _ rfl
@[go_sem] theorem fns_12:(E1 pr).fns 12=some f12:=rfl
@[go_sem] theorem loc_12 (d):(E1 pr).loc 12 d=memN d [2]:=rfl
@[go_sem] theorem res_12 (tm H):resP (E1 pr) f12 tm H=if noLoc (getT tm 4)&&noLoc (getT tm 5) then .ret (.tup [getT tm 4,getT tm 5]) H else .fail:=resP_two _ _ _ _ _ _ rfl
@[go_sem] theorem fns_20:(E1 pr).fns 20=some f20:=rfl
@[go_sem] theorem loc_20 (d):(E1 pr).loc 20 d=memN d [1]:=rfl
@[go_sem] theorem res_20 (tm H):resP (E1 pr) f20 tm H=if noLoc (getT tm 2)&&noLoc (getT tm 3) then .ret (.tup [getT tm 2,getT tm 3]) H else .fail:=resP_two _ _ _ _ _ _ rfl
@[go_sem] theorem fns_22:(E1 pr).fns 22=some f22:=rfl
@[go_sem] theorem loc_22 (d):(E1 pr).loc 22 d=memN d [1]:=rfl
@[go_sem] theorem res_22 (tm H):resP (E1 pr) f22 tm H=if noLoc (getT tm 2)&&noLoc (getT tm 3) then .ret (.tup [getT tm 2,getT tm 3]) H else .fail:=resP_two _ _ _ _ _ _ rfl
@[go_sem] theorem fns_38:(E1 pr).fns 38=some f38:=rfl
@[go_sem] theorem loc_38 (d):(E1 pr).loc 38 d=memN d []:=rfl
@[go_sem] theorem res_38 (tm H):resP (E1 pr) f38 tm H=res1 (getT tm 2) H:=resP_one _ _ _ _ _ rfl
@[go_sem] theorem z_123:zeroT (E1 pr) 123=some .nilmap:=by kernel_rfl
@[go_sem] theorem st_123 (p v tm H):storeP (E1 pr) 123 p v tm H=storeV 1 p v.cells tm H:=by kernel_rfl
@[go_sem] theorem z_124:zeroT (E1 pr) 124=some .nilfn:=by kernel_rfl
@[go_sem] theorem st_124 (p v tm H):storeP (E1 pr) 124 p v tm H=storeV 1 p v.cells tm H:=by kernel_rfl
@[go_sem] theorem ld_124 (p tm H):loadP (E1 pr) 124 p tm H=loadC 1 false (rowAtP tm H p):=by kernel_rfl
@[go_sem] theorem fns_62:(E1 pr).fns 62=some f62:=rfl
@[go_sem] theorem loc_62 (d):(E1 pr).loc 62 d=memN d [2]:=rfl
@[go_sem] theorem res_62 (tm H):resP (E1 pr) f62 tm H=res1 (getT tm 3) H:=resP_one _ _ _ _ _ rfl
@[go_sem] theorem fns_63:(E1 pr).fns 63=some f63:=rfl
@[go_sem] theorem loc_63 (d):(E1 pr).loc 63 d=memN d [10]:=rfl
@[go_sem] theorem res_63 (tm H):resP (E1 pr) f63 tm H=res1 (getT tm 5) H:=resP_one _ _ _ _ _ rfl
@[go_sem] theorem ld_123 (p tm H):loadP (E1 pr) 123 p tm H=loadC 1 false (rowAtP tm H p):=by kernel_rfl
@[go_sem] theorem fns_3:(E1 pr).fns 3=some f3:=rfl
@[go_sem] theorem loc_3 (d):(E1 pr).loc 3 d=memN d [3]:=rfl
@[go_sem] theorem res_3 (tm H):resP (E1 pr) f3 tm H=res1 (getT tm 6) H:=resP_one _ _ _ _ _ rfl
@[go_sem] theorem fns_7:(E1 pr).fns 7=some f7:=rfl
@[go_sem] theorem loc_7 (d):(E1 pr).loc 7 d=memN d [1]:=rfl
@[go_sem] theorem res_7 (tm H):resP (E1 pr) f7 tm H=if noLoc (getT tm 2)&&noLoc (getT tm 3) then .ret (.tup [getT tm 2,getT tm 3]) H else .fail:=resP_two _ _ _ _ _ _ rfl
@[go_sem] theorem fns_8:(E1 pr).fns 8=some f8:=rfl
@[go_sem] theorem loc_8 (d):(E1 pr).loc 8 d=memN d [1]:=rfl
@[go_sem] theorem res_8 (tm H):resP (E1 pr) f8 tm H=if noLoc (getT tm 2)&&noLoc (getT tm 3) then .ret (.tup [getT tm 2,getT tm 3]) H else .fail:=resP_two _ _ _ _ _ _ rfl
@[go_sem] theorem fns_11:(E1 pr).fns 11=some f11:=rfl
@[go_sem] theorem loc_11 (d):(E1 pr).loc 11 d=memN d []:=rfl
@[go_sem] theorem res_11 (tm H):resP (E1 pr) f11 tm H=res1 (getT tm 4) H:=resP_one _ _ _ _ _ rfl
@[go_sem] theorem fns_13:(E1 pr).fns 13=some f13:=rfl
@[go_sem] theorem loc_13 (d):(E1 pr).loc 13 d=memN d [2]:=rfl
@[go_sem] theorem res_13 (tm H):resP (E1 pr) f13 tm H=if noLoc (getT tm 4)&&noLoc (getT tm 5) then .ret (.tup [getT tm 4,getT tm 5]) H else .fail:=resP_two _ _ _ _ _ _ rfl
@[go_sem] theorem fns_15:(E1 pr).fns 15=some f15:=rfl
@[go_sem] theorem loc_15 (d):(E1 pr).loc 15 d=memN d [3,8,12,16]:=rfl
@[go_sem] theorem res_15 (tm H):resP (E1 pr) f15 tm H=if noLoc (getT tm 6)&&noLoc (getT tm 7) then .ret (.tup [getT tm 6,getT tm 7]) H else .fail:=resP_two _ _ _ _ _ _ rfl
@[go_sem] theorem z_25:zeroT (E1 pr) 25=some (.agg [.nilsl,.nilsl]):=by kernel_rfl
@[go_sem] theorem st_25 (p v tm H):storeP (E1 pr) 25 p v tm H=storeV 2 p v.cells tm H:=by kernel_rfl
@[go_sem] theorem st_47 (p v tm H):storeP (E1 pr) 47 p v tm H=storeV 1 p v.cells tm H:=by kernel_rfl
@[go_sem] theorem fns_17:(E1 pr).fns 17=some f17:=rfl
@[go_sem] theorem loc_17 (d):(E1 pr).loc 17 d=memN d [1]:=rfl
@[go_sem] theorem res_17 (tm H):resP (E1 pr) f17 tm H=if noLoc (getT tm 2)&&noLoc (getT tm 3) then .ret (.tup [getT tm 2,getT tm 3]) H else .fail:=resP_two _ _ _ _ _ _ rfl
@[go_sem] theorem fns_19:(E1 pr).fns 19=some f19:=rfl
@[go_sem] theorem loc_19 (d):(E1 pr).loc 19 d=memN d [1]:=rfl
@[go_sem] theorem res_19 (tm H):resP (E1 pr) f19 tm H=if noLoc (getT tm 2)&&noLoc (getT tm 3) then .ret (.tup [getT tm 2,getT tm 3]) H else .fail:=resP_two _ _ _ _ _ _ rfl
@[go_sem] theorem fns_21:(E1 pr).fns 21=some f21:=rfl
@[go_sem] theorem loc_21 (d):(E1 pr).loc 21 d=memN d [1,7]:=rfl
@[go_sem] theorem res_21 (tm H):resP (E1 pr) f21 tm H=if noLoc (getT tm 2)&&noLoc (getT tm 3) then .ret (.tup [getT tm 2,getT tm 3]) H else .fail:=resP_two _ _ _ _ _ _ rfl
@[go_sem] theorem fns_23:(E1 pr).fns 23=some f23:=rfl
@[go_sem] theorem loc_23 (d):(E1 pr).loc 23 d=memN d [1,13]:=rfl
@[go_sem] theorem res_23 (tm H):resP (E1 pr) f23 tm H=if noLoc (getT tm 2)&&noLoc (getT tm 3) then .ret (.tup [getT tm 2,getT tm 3]) H else .fail:=resP_two _ _ _ _ _ _ rfl
@[go_sem] theorem len_86 (x H):lenP (E1 pr) 86 x H=lenS x:=len_sl _ _ 4 _ _ (by kernel_rfl)
@[go_sem] theorem fns_24:(E1 pr).fns 24=some f24:=rfl
@[go_sem] theorem loc_24 (d):(E1 pr).loc 24 d=memN d []:=rfl
@[go_sem] theorem res_24 (tm H):resP (E1 pr) f24 tm H=res1 (getT tm 4) H:=resP_one _ _ _ _ _ rfl
@[go_sem] theorem fns_34:(E1 pr).fns 34=some f34:=rfl
@[go_sem] theorem loc_34 (d):(E1 pr).loc 34 d=memN d [2]:=rfl
@[go_sem] theorem res_34 (tm H):resP (E1 pr) f34 tm H=res1 (getT tm 4) H:=resP_one _ _ _ _ _ rfl
@[go_sem] theorem fns_35:(E1 pr).fns 35=some f35:=rfl
@[go_sem] theorem loc_35 (d):(E1 pr).loc 35 d=memN d [2,12]:=rfl
@[go_sem] theorem res_35 (tm H):resP (E1 pr) f35 tm H=res1 (getT tm 4) H:=resP_one _ _ _ _ _ rfl
@[go_sem] theorem fns_39:(E1 pr).fns 39=some f39:=rfl
@[go_sem] theorem loc_39 (d):(E1 pr).loc 39 d=memN d []:=rfl
@[go_sem] theorem res_39 (tm H):resP (E1 pr) f39 tm H=res1 (getT tm 4) H:=resP_one _ _ _ _ _ rfl
@[go_sem] theorem gd_3_5 (ops:List Oper) (cf tm H ds):goDrawn (E1 pr) cf 3 ops.toArray (okd 3 5) tm H ds=dopsC (E1 pr) cf 3 ops.toArray ops [.loc 3,.heap,.loc 3,.heap,.plain,.plain,.plain,.plain,.heap,.plain,.plain,.plain,.plain,.plain,.plain,.plain] tm H ds:=by rw [(show okd 3 5=some (mkDI (opsAt f3 5) 0 [27,2,27,2,0,0,0,0,2,0,0,0,0,0,0,0]) by kernel_rfl),goDrawn_plain _ _ _ ops _ tm H ds (by kernel_rfl) (by kernel_rfl)];rfl
@[go_sem] theorem gd_4_1 (ops:List Oper) (cf tm H ds):goDrawn (E1 pr) cf 4 ops.toArray (okd 4 1) tm H ds=dopsC (E1 pr) cf 4 ops.toArray ops [.plain,.loc 4,.plain,.loc 4,.plain,.plain] tm H ds:=by rw [(show okd 4 1=some (mkDI (opsAt f4 1) 0 [0,35,0,35,0,0]) by kernel_rfl),goDrawn_plain _ _ _ ops _ tm H ds (by kernel_rfl) (by kernel_rfl)];rfl
@[go_sem] theorem gd_4_54 (ops:List Oper) (cf tm H ds):goDrawn (E1 pr) cf 4 ops.toArray (okd 4 54) tm H ds=dopsC (E1 pr) cf 4 ops.toArray ops [.plain,.loc 3,.plain,.plain,.rd1 0,.plain,.plain,.plain,.loc 3,.plain,.plain,.rd1 0,.plain,.plain,.plain,.plain,.rd1 0,.plain] tm H ds:=by rw [(show okd 4 54=some (mkDI (opsAt f4 54) 0 [0,27,0,0,4,0,0,0,27,0,0,4,0,0,0,0,4,0]) by kernel_rfl),goDrawn_plain _ _ _ ops _ tm H ds (by kernel_rfl) (by kernel_rfl)];rfl
@[go_sem] theorem gd_11_6 (ops:List Oper) (cf tm H ds):goDrawn (E1 pr) cf 11 ops.toArray (okd 11 6) tm H ds=dopsC (E1 pr) cf 11 ops.toArray ops [.plain,.plain,.plain,.rd1 0,.plain,.plain,.plain,.rd1 0,.plain] tm H ds:=by rw [(show okd 11 6=some (mkDI (opsAt f11 6) 0 [0,0,0,4,0,0,0,4,0]) by kernel_rfl),goDrawn_plain _ _ _ ops _ tm H ds (by kernel_rfl) (by kernel_rfl)];rfl
@[go_sem] theorem gd_15_12 (ops:List Oper) (cf tm H ds):goDrawn (E1 pr) cf 15 ops.toArray (okd 15 12) tm H ds=dopsC (E1 pr) cf 15 ops.toArray ops [.plain,.loc 8,.plain,.loc 12,.plain,.loc 8,.plain,.loc 12,.plain,.rd1 0,.plain,.plain,.frz,.heap,.plain,.heap] tm H ds:=by rw [(show okd 15 12=some (mkDI (opsAt f15 12) 0 [0,67,0,99,0,67,0,99,0,4,0,0,1,2,0,2]) by kernel_rfl),goDrawn_plain _ _ _ ops _ tm H ds (by kernel_rfl) (by kernel_rfl)];rfl
@[go_sem] theorem gd_15_23 (ops:List Oper) (cf tm H ds):goDrawn (E1 pr) cf 15 ops.toArray (okd 15 23) tm H ds=dopsC (E1 pr) cf 15 ops.toArray ops [.plain,.plain,.loc 16,.plain,.rd1 0,.plain,.plain,.plain,.rd1 0,.plain,.plain] tm H ds:=by rw [(show okd 15 23=some (mkDI (opsAt f15 23) 0 [0,0,131,0,4,0,0,0,4,0,0]) by kernel_rfl),goDrawn_plain _ _ _ ops _ tm H ds (by kernel_rfl) (by kernel_rfl)];rfl
@[go_sem] theorem gd_24_6 (ops:List Oper) (cf tm H ds):goDrawn (E1 pr) cf 24 ops.toArray (okd 24 6) tm H ds=dopsC (E1 pr) cf 24 ops.toArray ops [.plain,.plain,.plain,.rd1 0,.plain,.plain,.plain,.rd1 0,.heap,.plain] tm H ds:=by rw [(show okd 24 6=some (mkDI (opsAt f24 6) 0 [0,0,0,4,0,0,0,4,2,0]) by kernel_rfl),goDrawn_plain _ _ _ ops _ tm H ds (by kernel_rfl) (by kernel_rfl)];rfl
@[go_sem] theorem gd_33_2 (ops:List Oper) (cf tm H ds) (h:tm.length=101):goDrawn (E1 pr) cf 33 ops.toArray (okd 33 2) tm H ds=ropsC (E1 pr) cf 33 ops.toArray H.n 3 101 ops [.plain,.plain,.plain,.plain,.plain,.plain,.plain,.plain,.loc 6] [none,some 0,none,some 1,none,some 2,none,none,none] tm [.tup [],.tup [],.tup []] (pushR 3 H) ds:=by rw [(show okd 33 2=some (mkDI (opsAt f33 2) 3 [0,6,0,14,0,22,0,0,51]) by kernel_rfl),goDrawn_rs _ _ _ ops _ tm H ds 101 h (by kernel_rfl) (by kernel_rfl)];rfl
@[go_sem] theorem gd_33_6 (ops:List Oper) (cf tm H ds):goDrawn (E1 pr) cf 33 ops.toArray (okd 33 6) tm H ds=dopsC (E1 pr) cf 33 ops.toArray ops [.plain,.loc 6,.plain,.plain,.loc 6,.plain,.plain,.loc 6,.plain,.plain,.heap,.plain,.heap,.plain,.heap] tm H ds:=by rw [(show okd 33 6=some (mkDI (opsAt f33 6) 0 [0,51,0,0,51,0,0,51,0,0,2,0,2,0,2]) by kernel_rfl),goDrawn_plain _ _ _ ops _ tm H ds (by kernel_rfl) (by kernel_rfl)];rfl
@[go_sem] theorem gd_33_17 (ops:List Oper) (cf tm H ds):goDrawn (E1 pr) cf 33 ops.toArray (okd 33 17) tm H ds=dopsC (E1 pr) cf 33 ops.toArray ops [.plain,.loc 6,.plain,.loc 11,.plain,.loc 6,.plain,.loc 11,.plain,.loc 6,.plain,.loc 11,.plain,.plain,.plain,.loc 6,.plain,.plain,.rd1 0,.plain,.plain,.heap,.plain,.heap,.plain,.heap] tm H ds:=by rw [(show okd 33 17=some (mkDI (opsAt f33 17) 0 [0,51,0,91,0,51,0,91,0,51,0,91,0,0,0,51,0,0,4,0,0,2,0,2,0,2]) by kernel_rfl),goDrawn_plain _ _ _ ops _ tm H ds (by kernel_rfl) (by kernel_rfl)];rfl
@[go_sem] theorem gd_35_18 (ops:List Oper) (cf tm H ds):goDrawn (E1 pr) cf 35 ops.toArray (okd 35 18) tm H ds=dopsC (E1 pr) cf 35 ops.toArray ops [.plain,.plain,.loc 12,.plain,.plain,.plain,.rd1 0,.plain,.plain,.heap] tm H ds:=by rw [(show okd 35 18=some (mkDI (opsAt f35 18) 0 [0,0,99,0,0,0,4,0,0,2]) by kernel_rfl),goDrawn_plain _ _ _ ops _ tm H ds (by kernel_rfl) (by kernel_rfl)];rfl
@[go_sem] theorem gd_36_3 (ops:List Oper) (cf tm H ds):goDrawn (E1 pr) cf 36 ops.toArray (okd 36 3) tm H ds=dopsC (E1 pr) cf 36 ops.toArray ops [.plain,.plain,.plain,.plain,.plain,.plain,.plain,.rd1 0,.plain,.plain,.plain,.rd1 0,.plain,.heap,.plain,.heap] tm H ds:=by rw [(show okd 36 3=some (mkDI (opsAt f36 3) 0 [0,0,0,0,0,0,0,4,0,0,0,4,0,2,0,2]) by kernel_rfl),goDrawn_plain _ _ _ ops _ tm H ds (by kernel_rfl) (by kernel_rfl)];rfl
@[go_sem] theorem gd_58_9 (ops:List Oper) (cf tm H ds):goDrawn (E1 pr) cf 58 ops.toArray (okd 58 9) tm H ds=dopsC (E1 pr) cf 58 ops.toArray ops [.plain,.plain,.plain,.plain,.plain,.plain,.plain,.heap,.plain,.plain] tm H ds:=by rw [(show okd 58 9=some (mkDI (opsAt f58 9) 0 [0,0,0,0,0,0,0,2,0,0]) by kernel_rfl),goDrawn_plain _ _ _ ops _ tm H ds (by kernel_rfl) (by kernel_rfl)];rfl
@[go_sem] theorem gd_59_0 (ops:List Oper) (cf tm H ds):goDrawn (E1 pr) cf 59 ops.toArray (okd 59 0) tm H ds=dopsC (E1 pr) cf 59 ops.toArray ops [.plain,.plain,.plain,.rd1 0,.plain,.plain,.plain,.plain,.rd1 0,.plain,.plain,.plain,.plain,.rd1 0,.plain,.plain,.plain,.rd1 0,.plain,.heap,.plain,.heap] tm H ds:=by rw [(show okd 59 0=some (mkDI (opsAt f59 0) 0 [0,0,0,4,0,0,0,0,4,0,0,0,0,4,0,0,0,4,0,2,0,2]) by kernel_rfl),goDrawn_plain _ _ _ ops _ tm H ds (by kernel_rfl) (by kernel_rfl)];rfl
@[go_sem] theorem gd_59_2 (ops:List Oper) (cf tm H ds):goDrawn (E1 pr) cf 59 ops.toArray (okd 59 2) tm H ds=grC (wopsC (E1 pr) cf 59 ops.toArray ops [.plain,.plain,.plain,.plain,.read [0,13],.plain,.plain,.plain,.plain,.rd1 0,.plain,.frz,.heap,.plain,.plain,.heap,.plain,.heap] [] [] tm H ds) (goDrawnX (E1 pr) cf 59 ops.toArray (okd 59 2) tm H ds):=by rw [(show okd 59 2=some (mkDI (opsAt f59 2) 0 [0,0,0,0,65549,0,0,0,0,4,0,1,2,0,0,2,0,2]) by kernel_rfl),goDrawn_gr _ _ _ ops _ tm H ds (by kernel_rfl)];rfl
@[go_sem] theorem gd_59_9 (ops:List Oper) (cf tm H ds):goDrawn (E1 pr) cf 59 ops.toArray (okd 59 9) tm H ds=dopsC (E1 pr) cf 59 ops.toArray ops [.plain,.plain,.plain,.rd1 0,.plain,.plain,.plain,.plain,.rd1 0,.plain,.plain,.rd1 0,.plain,.plain,.plain,.rd1 0,.plain,.plain,.rd1 0,.plain,.plain,.heap] tm H ds:=by rw [(show okd 59 9=some (mkDI (opsAt f59 9) 0 [0,0,0,4,0,0,0,0,4,0,0,4,0,0,0,4,0,0,4,0,0,2]) by kernel_rfl),goDrawn_plain _ _ _ ops _ tm H ds (by kernel_rfl) (by kernel_rfl)];rfl
@[go_sem] theorem gd_59_11 (ops:List Oper) (cf tm H ds):goDrawn (E1 pr) cf 59 ops.toArray (okd 59 11) tm H ds=dopsC (E1 pr) cf 59 ops.toArray ops [.plain,.plain,.plain,.rd1 0,.plain,.plain,.plain,.plain,.rd1 0,.plain,.plain,.rd1 0,.plain,.plain,.plain,.rd1 0,.plain,.plain,.rd1 0,.plain,.plain,.heap] tm H ds:=by rw [(show okd 59 11=some (mkDI (opsAt f59 11) 0 [0,0,0,4,0,0,0,0,4,0,0,4,0,0,0,4,0,0,4,0,0,2]) by kernel_rfl),goDrawn_plain _ _ _ ops _ tm H ds (by kernel_rfl) (by kernel_rfl)];rfl
@[go_sem] theorem gd_59_13 (ops:List Oper) (cf tm H ds):goDrawn (E1 pr) cf 59 ops.toArray (okd 59 13) tm H ds=dopsC (E1 pr) cf 59 ops.toArray ops [.plain,.plain,.plain,.rd1 0,.plain,.plain,.rd1 0,.plain,.plain,.plain,.rd1 0,.plain,.plain,.rd1 0,.plain] tm H ds:=by rw [(show okd 59 13=some (mkDI (opsAt f59 13) 0 [0,0,0,4,0,0,4,0,0,0,4,0,0,4,0]) by kernel_rfl),goDrawn_plain _ _ _ ops _ tm H ds (by kernel_rfl) (by kernel_rfl)];rfl
@[go_sem] theorem gd_59_21 (ops:List Oper) (cf tm H ds):goDrawn (E1 pr) cf 59 ops.toArray (okd 59 21) tm H ds=grC (wopsC (E1 pr) cf 59 ops.toArray ops [.plain,.plain,.plain,.plain,.plain,.read [0,15],.plain,.plain,.plain,.plain,.plain,.rd1 0,.plain,.frz,.heap,.plain,.plain,.heap,.plain,.plain,.heap] [] [] tm H ds) (goDrawnX (E1 pr) cf 59 ops.toArray (okd 59 21) tm H ds):=by rw [(show okd 59 21=some (mkDI (opsAt f59 21) 0 [0,0,0,0,0,262157,0,0,0,0,0,4,0,1,2,0,0,2,0,0,2]) by kernel_rfl),goDrawn_gr _ _ _ ops _ tm H ds (by kernel_rfl)];rfl
@[go_sem] theorem gd_61_1 (ops:List Oper) (cf tm H ds):goDrawn (E1 pr) cf 61 ops.toArray (okd 61 1) tm H ds=dopsC (E1 pr) cf 61 ops.toArray ops [.plain,.plain,.rd1 0,.plain,.plain,.rd1 0,.plain,.plain] tm H ds:=by rw [(show okd 61 1=some (mkDI (opsAt f61 1) 0 [0,0,4,0,0,4,0,0]) by kernel_rfl),goDrawn_plain _ _ _ ops _ tm H ds (by kernel_rfl) (by kernel_rfl)];rfl
end
open Go Go.Proofs.Tryz
set_option maxRecDepth 100000
section
variable (pr:Nat→Option (List Val→Hp→FRes)) (lf:Nat)
noncomputable abbrev EV (k f:Nat) (args:List Val) (H:Hp):FRes:=evalFn (E1 pr) okd lf k f args H
theorem c31 (hp:pr 31=none) (k:Nat) (r a m:Val) (to n:Int) (id gen g d ro:Nat) (H:Hp) (hr:okCell r=true) (ha:okCell a=true) (hm:okCell m=true)
  (h:H.get id=some (.cells g d ro [.int .i64 n])) (hd:d≤gen):
   EV pr lf (k+1) 31 [.agg [r,a,m,.int .i64 to],.ptr id gen 0 1] H= .ret (.bool (decide (to<0)||decide (n≤to))) H:=by
 unfold EV;rw [evalFn_S (E1 pr) okd lf k 31 11 _ H f31 _ hp (fns_31 pr) rfl rfl];simp only [go_sem,h,hd,hr,ha,hm,Nat.reduceEqDiff,Nat.reduceLT,Nat.reduceAdd,Nat.reduceLeDiff];cases h0:decide (to<0)<;>
 simp only [go_sem,h,hd,hr,ha,hm,Nat.reduceEqDiff,Nat.reduceLT,Nat.reduceAdd,Nat.reduceLeDiff,ge_iff_le,Bool.false_eq_true]
theorem c55 (hp:pr 55=none) (k g:Nat) (x:Val) (rows:List (List Val)) (caps:List Val) (H:Hp) (P:List Val→Bool) (hx:IsSl x rows) (hn:rows.length<lf) (hs:rows.length<4611686018427387904)
  (hr: ∀r∈rows,r.length=4∧r.all okCell=true) (hc:caps.all noLoc=true)
  (hcall: ∀r∈rows,∀H1,Ext H H1→ ∃H2,EV pr lf k g (.agg r::caps) H1= .ret (.bool (P r)) H2∧Ext H1 H2):
  ∃H' n,EV pr lf (k+1) 55 [x,.fn (.func g) [] caps] H= .ret (.int .i64 n) H'∧Ext H H'∧decide (n≥0)=rows.any P:=by
 unfold EV;rw [evalFn_S (E1 pr) okd lf k 55 17 _ H f55 _ hp (fns_55 pr) rfl rfl];simp only [go_sem,hx.opdV,hx.len,Nat.reduceEqDiff,Nat.reduceLT,Nat.reduceAdd,Nat.reduceLeDiff];generalize hL:loopC _ _ _ _ _ _ _ _ _ _=L;have hQ:(∃tm H',L= .exit 0 tm H' []∧Ext H H'∧tm.length=19∧rows.any P=false)∨(∃tm H' j,L= .ret tm H' []∧Ext H H'∧getT tm 4= .int .i64 (j:Nat)∧rows.any P=true):=by
  subst hL;refine loop_up _ (fun L=>(∃tm H',L= .exit 0 tm H' []∧Ext H H'∧tm.length=19∧rows.any P=false)∨(∃tm H' j,L= .ret tm H' []∧Ext H H'∧getT tm 4= .int .i64 (j:Nat)∧rows.any P=true))
   (fun j tm H1=>tm.length=19∧getT tm 0=x∧getT tm 1= .fn (.func g) [] caps∧getT tm 7= .int .i64 rows.length∧getT tm 8= .int .i64 j∧Ext H H1∧(rows.take j).any P=false)
   rows.length ?_ lf 0 _ _ (Nat.zero_le _) (by omega) (by simp [go_sem,Ext.refl])
  rintro j tm H1 hj ⟨hl,h0,h1,h7,h8,he,ht⟩;by_cases hjn:j<rows.length
  · obtain ⟨r,hr0⟩: ∃r,rows[j]? =some r:=⟨rows[j],by simp [hjn]⟩;have hm:r∈rows:=List.mem_of_getElem? hr0;obtain ⟨H2,hc2,he2⟩:=hcall r hm H1 he;have hlt:decide ((j:Int)<(rows.length:Int))=true:=by simp;omega
    obtain ⟨h4,ho⟩:=hr r hm;have hw:IntKind.i64.wrap ((j:Int)+1)=((j+1:Nat):Int):=by rw [wrap64 _ (by omega) (by omega)];rfl
    have htk:(rows.take (j+1)).any P=P r:=by rw [List.take_add_one,hr0];simp [ht]
    generalize hB:evalCode _ _ _ _ _ _ tm H1 []=B;cases hP:P r<;>
    simp only [go_sem,hl,h0,h1,h7,h8,hx.opdV,hx.len,hlt,hx.ix hr0 h4,h4,takeLen r 4 h4,hc,hc2,hP,hw,Nat.le_refl,Nat.reduceEqDiff,Nat.reduceLT,Nat.reduceAdd,Nat.reduceLeDiff] at hB<;>subst hB
    · refine .inl ⟨_,_,rfl,hjn,?_⟩;have hx1:=he.trans (Ext.gc he2 (.bool false));simp only [go_sem,hl,h0,h1,h7,htk,hP,hx1,Nat.reduceEqDiff,Nat.reduceLT]
    · refine .inr ⟨rfl,.inr ⟨_,_,j,rfl,he.trans (Ext.gc he2 (.bool true)),?_,?_⟩⟩
      · simp only [go_sem,hl,Nat.reduceEqDiff,Nat.reduceLT]
      · exact List.any_eq_true.2 ⟨r,hm,hP⟩
  · have hj2:j=rows.length:=by omega
    subst hj2;rw [List.take_length] at ht;generalize hB:evalCode _ _ _ _ _ _ tm H1 []=B;have hlt:decide ((rows.length:Int)<(rows.length:Int))=false:=by simp
    simp only [go_sem,hl,h0,h1,h7,h8,hlt,Nat.reduceEqDiff,Nat.reduceLT,Nat.reduceAdd,Nat.reduceLeDiff] at hB;subst hB;refine .inr ⟨rfl,.inl ⟨_,_,rfl,he,?_,ht⟩⟩;simp only [go_sem,hl]
 rcases hQ with ⟨tm,H',rfl,he,hl,ha⟩|⟨tm,H',j,rfl,he,h4,ha⟩
 · simp only [go_sem,hl,Nat.reduceEqDiff,Nat.reduceLT,Nat.reduceAdd,Nat.reduceLeDiff];exact ⟨_,_,rfl,he,by rw [ha];rfl⟩
 · simp only [go_sem,h4];exact ⟨_,_,rfl,he,by rw [ha];simp⟩
theorem c30 (hp:pr 30=none) (hp5:pr 55=none) (k g:Nat) (x:Val) (rows:List (List Val)) (caps:List Val) (H:Hp) (P:List Val→Bool) (hx:IsSl x rows) (hn:rows.length<lf) (hs:rows.length<4611686018427387904)
  (hr: ∀r∈rows,r.length=4∧r.all okCell=true) (hc:caps.all noLoc=true)
  (hcall: ∀r∈rows,∀H1,Ext H H1→ ∃H2,EV pr lf k g (.agg r::caps) H1= .ret (.bool (P r)) H2∧Ext H1 H2):
  ∃H',EV pr lf (k+2) 30 [x,.fn (.func g) [] caps] H= .ret (.bool (rows.any P)) H'∧Ext H H':=by
 unfold EV;rw [evalFn_S (E1 pr) okd lf (k+1) 30 7 _ H f30 _ hp (fns_30 pr) rfl rfl];obtain ⟨H',n,h1,h2,h3⟩:=c55 pr lf hp5 k g x rows caps H P hx hn hs hr hc hcall;simp only [go_sem,hx.opdV,hx.noLoc,h1,h3,Nat.reduceEqDiff,Nat.reduceLT,Nat.reduceAdd,Nat.reduceLeDiff];exact ⟨_,rfl,Ext.gc h2 _⟩
end
open Go Go.Proofs.Tryz
set_option maxRecDepth 100000
def OkE (r:List Val):Prop:= ∃a b c n x bl,r= [.int .i64 a,x,.int .i64 c,.int .i64 n]∧b=x∧IsSl x bl∧bl.length<4611686018427387904
def toE:List Val→Int
 | [_,_,_,.int _ n]=>n
 |_=>0
structure OkG (er:List (List Val)) (adj:List (List (List Val))):Prop where
  len:er.length=adj.length
  small:er.length<4611686018427387904
  row: ∀(i:Nat) (r:List Val),er[i]? =some r→ ∃(x:Val) (rows:List (List Val)),r= [x]∧adj[i]? =some rows∧IsSl x rows∧rows.length<4611686018427387904∧ ∀e∈rows,OkE e
def shapeB (n:Nat) (adj:List (List (List Val))):Bool:= !(n==0)&&(decide (n≤400)&&(adj.length==n&&adj.all fun l=>l.all fun e=>decide (0≤toE e)&&decide (toE e<n)))
section
variable (pr:Nat→Option (List Val→Hp→FRes)) (lf:Nat)
theorem OkE.len {r} (h:OkE r):r.length=4∧r.all okCell=true:=by obtain ⟨a,b,c,n,x,bl,rfl,rfl,hx,-⟩:=h;simp [hx.okCell];simp [okCell]
theorem c9 (hp:pr 9=none) (hp30:pr 30=none) (hp55:pr 55=none) (hp31:pr 31=none) (k:Nat) (ss es:Val) (sr er:List (List Val)) (adj:List (List (List Val))) (H:Hp)
  (hs:IsSl ss sr) (he:IsSl es er) (hg:OkG er adj) (hsl:sr.length<4611686018427387904) (hn:er.length<lf) (hn2: ∀l∈adj,l.length<lf):
  ∃H',EV pr lf (k+4) 9 [.agg [ss,es]] H= .ret (.bool (shapeB sr.length adj)) H'∧Ext H H':=by
 unfold EV;rw [evalFn_S (E1 pr) okd lf (k+3) 9 32 _ H f9 _ hp (fns_9 pr) rfl rfl];have hln:((er.length:Int) !=(sr.length:Int))= !(adj.length==sr.length):=by rw [hg.len];cases h:(adj.length==sr.length)<;>simp at h⊢ <;>omega
 have hgen:=Nat.le_refl (genOf 3);simp only [go_sem,hs.opdV,hs.len,hs.okCell,he.okCell,he.opdV,he.len,Nat.reduceEqDiff,Nat.reduceLT,Nat.reduceAdd,Nat.reduceLeDiff,Nat.le_refl,List.drop_zero];unfold shapeB
 cases h0:((sr.length:Int)==0) with
 | true=>
   have h1:(sr.length==0)=true:=by simp at h0⊢;exact h0
   simp only [go_sem,h1,hs.opdV,hs.len,hs.okCell,he.okCell,he.opdV,he.len,Nat.reduceEqDiff,Nat.reduceLT,Nat.reduceAdd,Nat.reduceLeDiff,Nat.le_refl,List.drop_zero];exact ⟨_,rfl,Ext.push _ _⟩
 |false=>
 have h1:(sr.length==0)=false:=by simp at h0⊢;exact h0
 simp only [go_sem,h1,hs.opdV,hs.len,hs.okCell,he.okCell,he.opdV,he.len,Nat.reduceEqDiff,Nat.reduceLT,Nat.reduceAdd,Nat.reduceLeDiff,Nat.le_refl,List.drop_zero,Bool.false_eq_true]
 cases h2:decide ((sr.length:Int)>400) with
 | true=>
   have h3:decide (sr.length≤400)=false:=by simp at h2⊢;omega
   simp only [go_sem,h3,hs.opdV,hs.len,hs.okCell,he.okCell,he.opdV,he.len,Nat.reduceEqDiff,Nat.reduceLT,Nat.reduceAdd,Nat.reduceLeDiff,Nat.le_refl,List.drop_zero];exact ⟨_,rfl,Ext.push _ _⟩
 |false=>
 have h3:decide (sr.length≤400)=true:=by simp at h2⊢;omega
 simp only [go_sem,h3,hln,hs.opdV,hs.len,hs.okCell,he.okCell,he.opdV,he.len,Nat.reduceEqDiff,Nat.reduceLT,Nat.reduceAdd,Nat.reduceLeDiff,Nat.le_refl,List.drop_zero,Bool.false_eq_true]
 cases h4:(adj.length==sr.length) with
 | false=>
   simp only [go_sem,Nat.reduceEqDiff,Nat.reduceLT,Nat.reduceAdd,Nat.reduceLeDiff,Nat.le_refl,List.drop_zero];exact ⟨_,rfl,Ext.push _ _⟩
 |true=>
 simp only [go_sem,hs.opdV,hs.len,hs.okCell,he.okCell,he.opdV,he.len,Nat.reduceEqDiff,Nat.reduceLT,Nat.reduceAdd,Nat.reduceLeDiff,Nat.le_refl,List.drop_zero];have h5:adj.length=sr.length:=by simpa using h4
 generalize hL:loopC _ _ _ _ _ _ _ _ _ _=L;let B (l:List (List Val)):Bool:=l.all fun e=>decide (0≤toE e)&&decide (toE e<sr.length);let Q (L:CRes):Prop:=(∃tm H',L= .exit 0 tm H' []∧Ext H H'∧tm.length=33∧adj.all B=true)∨(∃tm H',L= .ret tm H' []∧Ext H H'∧getT tm 2= .bool false∧adj.all B=false);have hQ:Q L:=by
  subst hL;refine loop_up _ Q
   (fun j tm H1=>tm.length=33∧getT tm 23=es∧getT tm 3= .ptr H.n (genOf 3) 0 1∧getT tm 24= .int .i64 er.length∧getT tm 25= .int .i64 j∧Ext (H.push (.cells (genOf 3) (genOf 3) 0 [.int .i64 sr.length])) H1∧(adj.take j).all B=true)
   er.length ?_ lf 0 _ _ (Nat.zero_le _) (by omega) (by simp [go_sem,Ext.refl])
  rintro j tm H1 hj ⟨hl,h23,h3,h24,h25,hE,ht⟩;by_cases hjn:j<er.length
  · obtain ⟨r,hr0⟩: ∃r,er[j]? =some r:=⟨er[j],by simp [hjn]⟩;obtain ⟨x,rows,rfl,hadj,hx,hxs,hee⟩:=hg.row j r hr0;have hm:rows∈adj:=List.mem_of_getElem? hadj;have hlt:decide ((j:Int)<(er.length:Int))=true:=by simp;omega
    have hw:IntKind.i64.wrap ((j:Int)+1)=((j+1:Nat):Int):=by rw [wrap64 _ (by have:=hg.small;omega) (by have:=hg.small;omega)];rfl
    have hcell:=hE.get (get_push_new H (.cells (genOf 3) (genOf 3) 0 [.int .i64 sr.length]));obtain ⟨H2,hc2,he2⟩:=c30 pr lf hp30 hp55 (k+1) 31 x rows [.ptr H.n (genOf 3) 0 1] H1 (fun e=>decide (toE e<0)||decide ((sr.length:Int)≤toE e)) hx (hn2 rows hm) hxs (fun r hr=>(hee r hr).len) rfl
     (by intro e hei H3 h13;obtain ⟨a,b,c,n,y,bl,rfl,rfl,hy,-⟩:=hee e hei;exact ⟨H3,c31 pr lf hp31 k _ _ _ n sr.length H.n (genOf 3) (genOf 3) (genOf 3) 0 H3 rfl hy.okCell rfl (h13.get hcell) (Nat.le_refl _),Ext.refl _⟩)
    have hP:B rows= !(rows.any fun e=>decide (toE e<0)||decide ((sr.length:Int)≤toE e)):=by rw [List.not_any_eq_all_not];refine congrArg (fun f=>rows.all f) (funext fun e=> ?_);rw [Bool.eq_iff_iff];simp
    have htk:(adj.take (j+1)).all B=B rows:=by rw [List.take_add_one,hadj];simp [ht]
    generalize hB:evalCode _ _ _ _ _ _ tm H1 []=R;cases hQ:(rows.any fun e=>decide (toE e<0)||decide ((sr.length:Int)≤toE e))<;>
    simp only [go_sem,hl,h23,h3,h24,h25,he.opdV,hx.opdV,hx.noLoc,hlt,he.ix (k:=1) hr0 rfl,hc2,hQ,hw,Nat.le_refl,Nat.reduceEqDiff,Nat.reduceLT,Nat.reduceAdd,Nat.reduceLeDiff] at hB<;>subst hB
    · refine .inl ⟨_,_,rfl,hjn,?_⟩;have hx1:=hE.trans (Ext.gc he2 (.bool false));simp only [go_sem,hl,h23,h3,h24,htk,hP,hQ,hx1,Nat.reduceEqDiff,Nat.reduceLT]
    · refine .inr ⟨rfl,.inr ⟨_,_,rfl,(Ext.push _ _).trans (hE.trans (Ext.gc he2 (.bool true))),?_,?_⟩⟩
      · simp only [go_sem,hl,Nat.reduceEqDiff,Nat.reduceLT]
      · rw [List.all_eq_false];exact ⟨rows,hm,by rw [hP,hQ];simp⟩
  · have hj2:j=er.length:=by omega
    subst hj2;rw [hg.len,List.take_length] at ht;generalize hB:evalCode _ _ _ _ _ _ tm H1 []=R;have hlt:decide ((er.length:Int)<(er.length:Int))=false:=by simp
    simp only [go_sem,hl,h24,h25,hlt,Nat.reduceEqDiff,Nat.reduceLT,Nat.reduceAdd,Nat.reduceLeDiff] at hB;subst hB;refine .inr ⟨rfl,.inl ⟨_,_,rfl,(Ext.push _ _).trans hE,?_,ht⟩⟩;simp only [go_sem,hl]
 rcases hQ with ⟨tm,H',rfl,hE,hl,ha⟩|⟨tm,H',rfl,hE,h2,ha⟩
 · simp only [go_sem,hl,Nat.reduceEqDiff,Nat.reduceLT,Nat.reduceAdd,Nat.reduceLeDiff];exact ⟨_,by rw [show (adj.all fun l=>l.all fun e=>decide (0≤toE e)&&decide (toE e<sr.length))=true from ha],hE⟩
 · simp only [go_sem,h2];exact ⟨_,by rw [show (adj.all fun l=>l.all fun e=>decide (0≤toE e)&&decide (toE e<sr.length))=false from ha],hE⟩
end
open Go Go.Proofs.Tryz
set_option maxRecDepth 100000
def iR (a:Int):List Val:= [.int .i64 a]
section
variable (pr:Nat→Option (List Val→Hp→FRes)) (lf:Nat)
theorem c97 (hp:pr 97=none) (k g:Nat) (x:Val) (xs:List Int) (caps:List Val) (H:Hp) (P:Int→Bool) (hx:IsSl x (xs.map iR)) (hn:xs.length<lf) (hs:xs.length<4611686018427387904)
  (hc:caps.all noLoc=true)
  (hcall: ∀a∈xs,∀H1,Ext H H1→ ∃H2,EV pr lf k g (.int .i64 a::caps) H1= .ret (.bool (P a)) H2∧Ext H1 H2):
  ∃H' n,EV pr lf (k+1) 97 [x,.fn (.func g) [] caps] H= .ret (.int .i64 n) H'∧Ext H H'∧decide (n≥0)=xs.any P:=by
 unfold EV;rw [evalFn_S (E1 pr) okd lf k 97 17 _ H f97 _ hp (fns_97 pr) rfl rfl];simp only [go_sem,hx.opdV,hx.len,List.length_map];generalize hL:loopC _ _ _ _ _ _ _ _ _ _=L;let Q (L:CRes):Prop:=(∃tm H',L= .exit 0 tm H' []∧Ext H H'∧tm.length=19∧xs.any P=false)∨(∃tm H' j,L= .ret tm H' []∧Ext H H'∧getT tm 4= .int .i64 (j:Nat)∧xs.any P=true);have hQ:Q L:=by
  subst hL;refine loop_up _ Q
   (fun j tm H1=>tm.length=19∧getT tm 0=x∧getT tm 1= .fn (.func g) [] caps∧getT tm 7= .int .i64 xs.length∧getT tm 8= .int .i64 j∧Ext H H1∧(xs.take j).any P=false)
   xs.length ?_ lf 0 _ _ (Nat.zero_le _) (by omega) (by simp [go_sem,Ext.refl])
  rintro j tm H1 hj ⟨hl,h0,h1,h7,h8,he,ht⟩;by_cases hjn:j<xs.length
  · obtain ⟨a,hr0⟩: ∃a,xs[j]? =some a:=⟨xs[j],by simp [hjn]⟩;have hm:a∈xs:=List.mem_of_getElem? hr0;have hr1:(xs.map iR)[j]? =some (iR a):=by rw [List.getElem?_map,hr0];rfl
    obtain ⟨H2,hc2,he2⟩:=hcall a hm H1 he;have hlt:decide ((j:Int)<(xs.length:Int))=true:=by simp;omega
    have hw:IntKind.i64.wrap ((j:Int)+1)=((j+1:Nat):Int):=by rw [wrap64 _ (by omega) (by omega)];rfl
    have htk:(xs.take (j+1)).any P=P a:=by rw [List.take_add_one,hr0];simp [ht]
    generalize hB:evalCode _ _ _ _ _ _ tm H1 []=B;cases hP:P a<;>
    simp only [go_sem,hl,h0,h1,h7,h8,hx.opdV,hlt,hx.ix (k:=1) hr1 rfl,iR,hc,hc2,hP,hw] at hB<;>subst hB
    · refine .inl ⟨_,_,rfl,hjn,?_⟩;have hx1:=he.trans (Ext.gc he2 (.bool false));simp only [go_sem,hl,h0,h1,h7,htk,hP,hx1]
    · refine .inr ⟨rfl,.inr ⟨_,_,j,rfl,he.trans (Ext.gc he2 (.bool true)),?_,?_⟩⟩
      · simp only [go_sem,hl]
      · exact List.any_eq_true.2 ⟨a,hm,hP⟩
  · have hj2:j=xs.length:=by omega
    subst hj2;rw [List.take_length] at ht;generalize hB:evalCode _ _ _ _ _ _ tm H1 []=B;have hlt:decide ((xs.length:Int)<(xs.length:Int))=false:=by simp
    simp only [go_sem,hl,h7,h8,hlt] at hB;subst hB;refine .inr ⟨rfl,.inl ⟨_,_,rfl,he,?_,ht⟩⟩;simp only [go_sem,hl]
 rcases hQ with ⟨tm,H',rfl,he,hl,ha⟩|⟨tm,H',j,rfl,he,h4,ha⟩
 · simp only [go_sem,hl];exact ⟨_,_,rfl,he,by rw [ha];rfl⟩
 · simp only [go_sem,h4];exact ⟨_,_,rfl,he,by rw [ha];simp⟩
theorem c56 (hp:pr 56=none) (hp9:pr 97=none) (k g:Nat) (x:Val) (xs:List Int) (caps:List Val) (H:Hp) (P:Int→Bool) (hx:IsSl x (xs.map iR)) (hn:xs.length<lf) (hs:xs.length<4611686018427387904)
  (hc:caps.all noLoc=true)
  (hcall: ∀a∈xs,∀H1,Ext H H1→ ∃H2,EV pr lf k g (.int .i64 a::caps) H1= .ret (.bool (P a)) H2∧Ext H1 H2):
  ∃H',EV pr lf (k+2) 56 [x,.fn (.func g) [] caps] H= .ret (.bool (xs.any P)) H'∧Ext H H':=by
 unfold EV;rw [evalFn_S (E1 pr) okd lf (k+1) 56 7 _ H f56 _ hp (fns_56 pr) rfl rfl];obtain ⟨H',n,h1,h2,h3⟩:=c97 pr lf hp9 k g x xs caps H P hx hn hs hc hcall;simp only [go_sem,hx.opdV,hx.noLoc,hc,h1,h3];exact ⟨_,rfl,Ext.gc h2 _⟩
theorem c57 (hp:pr 57=none) (k:Nat) (a:Int) (ss es:Val) (sr:List (List Val)) (id gen g d ro lim:Nat) (H:Hp) (hs:IsSl ss sr) (hl:2≤lim)
  (h:H.get id=some (.cells g d ro [ss,es])) (hd:d≤gen):
   EV pr lf (k+1) 57 [.int .i64 a,.ptr id gen 0 lim] H= .ret (.bool (decide (a<0)||decide ((sr.length:Int)≤a))) H:=by
 unfold EV;have hl1:1≤lim:=by omega
 rw [evalFn_S (E1 pr) okd lf k 57 11 _ H f57 _ hp (fns_57 pr) rfl rfl];simp only [go_sem,h,hd];cases h0:decide (a<0)<;>
 simp only [go_sem,h,hd,hl1,hs.opdV,hs.len]
def indexN (n:Nat) (adj:List (List (List Val))) (l:List Int):Nat:=if shapeB n adj then (if l.any fun a=>decide (a<0)||decide ((n:Int)≤a) then 20 else 0) else 2
theorem c32 (hp:pr 32=none) (hp9:pr 9=none) (hp30:pr 30=none) (hp55:pr 55=none) (hp31:pr 31=none) (hp56:pr 56=none) (hp97:pr 97=none) (hp57:pr 57=none)
  (k:Nat) (ss es x:Val) (sr er:List (List Val)) (adj:List (List (List Val))) (xs:List Int) (H:Hp)
  (hs:IsSl ss sr) (he:IsSl es er) (hg:OkG er adj) (hsl:sr.length<4611686018427387904) (hn:er.length<lf) (hn2: ∀l∈adj,l.length<lf)
  (hx:IsSl x (xs.map iR)) (hxn:xs.length<lf) (hxs:xs.length<4611686018427387904):
  ∃H',EV pr lf (k+5) 32 [.agg [ss,es],x] H= .ret (.int .i64 (indexN sr.length adj xs)) H'∧Ext H H':=by
 unfold EV;rw [evalFn_S (E1 pr) okd lf (k+4) 32 9 _ H f32 _ hp (fns_32 pr) rfl rfl];have hH:=Ext.push H (.cells (genOf 25) (genOf 25) 0 [ss,es]);obtain ⟨H1,h1,e1⟩:=c9 pr lf hp9 hp30 hp55 hp31 k ss es sr er adj (H.push (.cells (genOf 25) (genOf 25) 0 [ss,es])) hs he hg hsl hn hn2;simp only [go_sem,hs.okCell,he.okCell,hs.opdV,he.opdV,hx.opdV,h1,Nat.le_refl];have e2:=Ext.gc e1 (.bool (shapeB sr.length adj));rw [n_push] at e2;revert e2;generalize gc _ _ H1=H2;intro e2;unfold indexN
 cases hb:shapeB sr.length adj with
 | false=>
   simp only [go_sem];exact ⟨_,rfl,hH.trans e2⟩
 |true=>
 have hcell:=e2.get (get_push_new H (.cells (genOf 25) (genOf 25) 0 [ss,es]));obtain ⟨H3,h3,e3⟩:=c56 pr lf hp56 hp97 (k+2) 57 x xs [.ptr H.n (genOf 25) 0 2] H2 (fun a=>decide (a<0)||decide ((sr.length:Int)≤a)) hx hxn hxs rfl
  (fun a _ H3 h13=>⟨H3,c57 pr lf hp57 (k+1) a ss es sr H.n (genOf 25) (genOf 25) (genOf 25) 0 2 H3 hs (Nat.le_refl _) (h13.get hcell) (Nat.le_refl _),Ext.refl _⟩)
 simp only [go_sem,hx.opdV,hx.noLoc,h3];have e4:=(hH.trans e2).trans (Ext.gc e3 (.bool (xs.any fun a=>decide (a<0)||decide ((sr.length:Int)≤a))));revert e4;generalize gc _ _ H3=H4;intro e4;cases hb:(xs.any fun a=>decide (a<0)||decide ((sr.length:Int)≤a))<;>
 simp only [go_sem]<;>
 exact ⟨_,rfl,e4⟩
end
open Go Go.Proofs.Tryz
set_option maxRecDepth 100000
def iC (a:Int):Val:= .int .i64 a
section
variable (pr:Nat→Option (List Val→Hp→FRes))
theorem und28:und (E1 pr) 28=some (.slice 3):=by kernel_rfl
theorem T3:(E1 pr).T 3=some t3:=by kernel_rfl
theorem app28 (v H) (a:Int):appendP (E1 pr) 28 28 v (.sl [[.int .i64 a]] true) H=app1 3 8 v (.int .i64 a) H:=
 append_one (E1 pr) 28 3 t3 v _ H (und28 pr) (T3 pr) rfl (by decide) rfl
theorem bs28 (H) (a:Int):buildSliceP (E1 pr) 28 1 [(0,.int .i64 a)] H=some (.sl [[.int .i64 a]] true,H):=by kernel_rfl
theorem bs28b (H) (a b:Int):buildSliceP (E1 pr) 28 2 [(0,.int .i64 a),(1,.int .i64 b)] H=some (.sl [[.int .i64 a],[.int .i64 b]] true,H):=by kernel_rfl
theorem ms28 (N:Nat) (tm H) (h:N≤4294967296):opMakeSlice (E1 pr) 28 (.int .i64 (N:Nat)) (.int .i64 (N:Nat)) tm H= .ok (.ref H.n 0 0 1 N false) tm (H.push (.cells 0 0 0 (List.replicate N (.int .i64 0)))):=
 makeSlice_sl (E1 pr) 28 3 N t3 _ tm H (und28 pr) (T3 pr) (by kernel_rfl) rfl rfl rfl (by show N*9≤roomN;unfold roomN;omega)
end
def QV (n0 m:Nat) (H:Hp) (v:Val) (q:List Int):Prop:=
 v= .sl (q.map iR) true∨(q= []∧v= .sl [] false)∨
 (∃id g off d cs,v= .ref id g off 1 q.length false∧H.get id=some (.cells g d 0 cs)∧n0≤id∧d≤g∧g≤m∧cs.drop off=q.map iC∧off+q.length=cs.length∧q≠ [])
theorem QV.len {n0 m H v q} (h:QV n0 m H v q):lenS v=some (.int .i64 q.length):=by
 rcases h with rfl|⟨rfl,rfl⟩|⟨id,g,off,d,cs,rfl,-⟩
 · simp [lenS]
 · rfl
 · rfl
theorem QV.opdV {n0 m H v q} (h:QV n0 m H v q) (t:Nat):opdV t v=v:=by rcases h with rfl|⟨rfl,rfl⟩|⟨id,g,off,d,cs,rfl,-⟩<;>rfl
theorem QV.ext {n0 m H H' v q} (h:QV n0 m H v q) (he: ∀i,n0≤i→i<H.n→H'.get i=H.get i):QV n0 m H' v q:=by
 rcases h with rfl|⟨rfl,rfl⟩|⟨id,g,off,d,cs,rfl,hg,hn,h1⟩
 · exact .inl rfl
 · exact .inr (.inl ⟨rfl,rfl⟩)
 · exact .inr (.inr ⟨id,g,off,d,cs,rfl,by rw [he id hn (get_lt hg),hg],hn,h1⟩)
theorem QV.head {n0 m H v a q} (h:QV n0 m H v (a::q)): ∃p,ixA 1 v (.int .i64 0)=some p∧(∀t,Go.PV.opdV t p=p)∧ ∀tm,loadC 1 false (rowAtP tm H p)=some (.int .i64 a):=by
 rcases h with rfl|⟨h,-⟩|⟨id,g,off,d,cs,rfl,hg,hn,hd,hm,hc,hl,-⟩
 · exact ⟨.fptr (iR a) 0,rfl,fun _=>rfl,fun _=>rfl⟩
 · cases h
 · refine ⟨.ptr id g (off+0*1) (off+0*1+1),?_,fun _=>rfl,?_⟩
   · show (if 1=1∧0<(a::q).length then some (Val.ptr id g (off+0*1) (off+0*1+1)) else none)=_;rw [if_pos ⟨rfl,by simp⟩]
   · have h0:cs[off]? =some (iC a):=by have:=congrArg (fun l=>l[0]?) hc;simpa using this
     intro tm;simp only [rowAtP_ptr,hg,rowH_cells,if_pos hd,loadC_one,Nat.zero_mul,Nat.add_zero,Nat.le_refl,if_true,h0,iC]
theorem slice28 (pr) (v lo hi mx):sliceP (E1 pr) 28 v lo hi mx=match v with
  | .nilsl=>sliceNil lo hi mx
  | .sl rows c=>match rowsK 1 rows with
    |true=>sliceRows rows c lo hi mx
    |false=>none
  | .ref id gen off k len c=>match Nat.beq 1 k with
    |true=>sliceRef id gen off k len c lo hi mx
    |false=>none
  |_=>none:=by
 unfold sliceP;rw [und28];have:sizeT (E1 pr) 3=some 1:=by kernel_rfl
 simp only [this];cases v<;>rfl
theorem QV.slice {n0 m H v a q} (h:QV n0 m H v (a::q)) (pr): ∃v',sliceP (E1 pr) 28 v (some (.int .i64 1)) none none=some v'∧QV n0 m H v' q:=by
 rw [slice28];rcases h with rfl|⟨h,-⟩|⟨id,g,off,d,cs,rfl,hg,hn,hd,hm,hc,hl,-⟩
 · refine ⟨.sl (q.map iR) true,?_,.inl rfl⟩;show (if 1≤(List.map iR (a::q)).length∧(List.map iR (a::q)).length≤(List.map iR (a::q)).length then _ else _)=_;rw [if_pos ⟨by simp,Nat.le_refl _⟩];simp [List.take_of_length_le]
 · cases h
 · show∃v',(if 1≤(a::q).length∧(a::q).length≤(a::q).length∧(false=true→(a::q).length=(a::q).length) then _ else _)=some v'∧_;rw [if_pos ⟨by simp,Nat.le_refl _,fun h=>by cases h⟩]
   cases q with
   |nil=>exact ⟨.sl [] false,rfl,.inr (.inl ⟨rfl,rfl⟩)⟩
   | cons b q=>
     refine ⟨.ref id g (off+1) 1 (b::q).length false,?_,.inr (.inr ⟨id,g,off+1,d,cs,rfl,hg,hn,hd,hm,?_,?_,by simp⟩)⟩
     · rw [if_neg (by simp)];simp
     · have:=congrArg List.tail hc;rw [List.tail_drop] at this;exact this
     · simp at hl⊢;omega
theorem tyOK_big (j:Nat) (h:j<1048000):tyOK j 3=true:=by have h1:(j+1)/1048576=0:=Nat.div_eq_of_lt (by omega);have h2:j/1048576=0:=Nat.div_eq_of_lt (by omega);simp [tyOK,tyN,h1,h2]
theorem QV.append {n0 m H v q} (h:QV n0 m H v q) (a:Int) (hq:q≠ []) (hn:n0≤H.n) (hm:m<1048000) (hl:q.length<4294967296):
  ∃v' H',app1 3 8 v (.int .i64 a) H=some (v',H')∧QV n0 (m+1) H' v' (q++ [a])∧H.n≤H'.n∧ ∀i,i<n0→H'.get i=H.get i:=by
 rcases h with rfl|⟨h,-⟩|⟨id,g,off,d,cs,rfl,hg,hid,hd,hgm,hc,hlen,-⟩
 · refine ⟨_,_,?_,.inr (.inr ⟨H.n,0,0,0,(q++ [a]).map iC,rfl,get_push_new _ _,hn,Nat.le_refl _,Nat.zero_le _,by simp,by simp,by simp⟩),Nat.le_succ _,fun i hi=>get_push_old _ _ _ (by omega)⟩;show (if ((List.map iR q).length+1)*(8+1)≤roomN∧_ then _ else _)=_;rw [if_pos ⟨by unfold roomN;simp;omega,by simp [iR]⟩];have:(q.map iR).flatten=q.map iC:=by
    clear hq hl hm
    induction q with
    |nil=>rfl
    |cons x l ih=>simp [iR,iC] at ih⊢;exact ih
   simp [this,iC]
 · exact absurd h hq
 · refine ⟨.ref id (g+1) off 1 (q.length+1) false,H.set id (.cells (g+1) d 0 (cs++ [iC a])),?_,.inr (.inr ⟨id,g+1,off,d,cs++ [iC a],by simp,get_set_same _ _ _ (by rw [hg];rfl),hid,by omega,by omega,?_,by simp;omega,by simp⟩),by rw [n_set];exact Nat.le_refl _,fun i hi=>get_set_ne _ _ _ _ (by omega)⟩
   · simp only [app1,hg];rw [if_pos ⟨trivial,by unfold roomN;omega,hd⟩];simp only [Bool.false_eq_true,if_false];rw [if_pos ⟨trivial,by omega,Nat.zero_le _,tyOK_big g (by omega)⟩];rfl
   · rw [List.drop_append_of_le_length (by omega),hc];simp
open Go Go.Proofs.Tryz
set_option maxRecDepth 100000
section
variable (pr:Nat→Option (List Val→Hp→FRes)) (lf:Nat)
theorem bu80 (x y z:Val) (a b c d e f a' b' c' d' e' f' a'' b'' c'' d'' e'' f'') (hx:x= .ref a b c d e f) (hy:y= .ref a' b' c' d' e' f') (hz:z= .ref a'' b'' c'' d'' e'' f''):buildP (E1 pr) 80 [(0,x),(1,y),(2,z)]=some (.agg [x,y,z]):=by subst hx hy hz;kernel_rfl
def H3 (H0 H:Hp) (fr ed fa:List Int):Prop:=H0.n+3≤H.n∧H.get H0.n=some (.cells 0 0 0 (fr.map iC))∧H.get (H0.n+1)=some (.cells 0 0 0 (ed.map iC))∧H.get (H0.n+2)=some (.cells 0 0 0 (fa.map iC))∧ ∀i,i<H0.n→H.get i=H0.get i
theorem und28s (x lo hi mx tm H):opSlice (E1 pr) 28 (und (E1 pr) 28) x lo hi mx tm H=okV (orV (sliceP (E1 pr) 28 x lo hi mx) (sliceMore (E1 pr) 28 x lo hi mx H)) tm H:=by rw [und28];rfl
@[go_sem] theorem orV_some (v w):orV (some v) w=some v:=rfl
def adjN (adj:List (List (List Val))) (i:Nat):List Nat:=((adj[i]?).getD []).map fun e=>(toE e).toNat
theorem get_iC {l:List Int} {i:Nat} (h:i<l.length):(l.map iC)[i]? =some (.int .i64 (gi l i)):=by rw [List.getElem?_map,gi_some h];rfl
theorem map_set_iC (l:List Int) (j:Nat) (a:Int):(l.map iC).set j (.int .i64 a)=(l.set j a).map iC:=by rw [List.map_set];rfl
theorem res33 (tm H s a b c) (h:getT tm 4= .lv s [a,b,c]):resP (E1 pr) f33 tm H= .ret (.agg [a,b,c]) H:=by
 have h1:resultsP (E1 pr) tm H f33.results.toList=some [.agg [a,b,c]]:=by
  show (match resultP (E1 pr) tm H (.cell 4 80) with|some v=>_|none=>_)=_;have h2:resultP (E1 pr) tm H (.cell 4 80)=some (.agg [a,b,c]):=by simp only [resultP,go_sem,h]
  rw [h2];rfl
 simp only [resP,h1];simp [noLoc]
def bs0 (n i:Nat):BS:=⟨List.replicate n (-1),List.replicate n (-1),(List.replicate n (-1)).set i 0,[(i:Int)]⟩
theorem c33 (hp:pr 33=none) (k:Nat) (ss es:Val) (sr er:List (List Val)) (i:Nat) (H:Hp) (hs:IsSl ss sr) (he:IsSl es er) (hn:sr.length≤400) (hlf:sr.length<lf)
  (adj:List (List (List Val))) (hg:OkG er adj) (hlen:er.length=sr.length) (hi:i<sr.length) (htot: ∀l∈adj,l.length≤3000000000000∧l.length<lf∧ ∀e∈l,0≤toE e∧toE e<sr.length):
  ∃ H' m,EV pr lf (k+1) 33 [.agg [ss,es],.int .i64 i] H= .ret (.agg [.ref H.n 0 0 1 sr.length false,.ref (H.n+1) 0 0 1 sr.length false,.ref (H.n+2) 0 0 1 sr.length false]) H'∧m≤sr.length∧
    (iterS (adjN adj) m (bs0 sr.length i)).q= []∧WfS sr.length (3000000000000*m) (iterS (adjN adj) m (bs0 sr.length i))∧H3 H H' (iterS (adjN adj) m (bs0 sr.length i)).fr (iterS (adjN adj) m (bs0 sr.length i)).ed (iterS (adjN adj) m (bs0 sr.length i)).fa:=by
 unfold EV;rw [evalFn_S (E1 pr) okd lf k 33 99 _ H f33 _ hp (fns_33 pr) rfl rfl];have hn2:sr.length≤4294967296:=by omega
 simp only [go_sem,hs.opdV,he.opdV,hs.okCell,he.okCell,hs.len,ms28 pr _ _ _ hn2,bu80 pr _ _ _ _ _ _ _ _ _ _ _ _ _ _ _ _ _ _ _ _ _ rfl rfl rfl];generalize hF:fillX _ _ _=F;obtain ⟨f0,f1,f2,f3,f4⟩:=fill3 H _ _ _ F hF;generalize hn:sr.length=n at*;generalize hL:loopC _ _ _ _ _ _ _ _ _ _=L;let Q (L:CRes):Prop:= ∃tm H',L= .exit 0 tm H' []∧H3 H H' (List.replicate n (-1)) (List.replicate n (-1)) (List.replicate n (-1))∧tm.length=101∧getT tm 1= .int .i64 i∧getT tm 2= .lv 0 [ss,es]∧getT tm 4= .lv 0 [.nilsl,.nilsl,.nilsl]∧
  getT tm 6= .lv 0 [.ref H.n 0 0 1 n false,.ref (H.n+1) 0 0 1 n false,.ref (H.n+2) 0 0 1 n false]∧H'.n=H.n+3
 have hQ:Q L:=by
  subst hL;refine loop_up _ Q
   (fun j tm H1=>tm.length=101∧getT tm 1= .int .i64 i∧getT tm 2= .lv 0 [ss,es]∧getT tm 4= .lv 0 [.nilsl,.nilsl,.nilsl]∧
    getT tm 6= .lv 0 [.ref H.n 0 0 1 n false,.ref (H.n+1) 0 0 1 n false,.ref (H.n+2) 0 0 1 n false]∧
    getT tm 22= .int .i64 n∧getT tm 23= .int .i64 j∧H1.n=H.n+3∧
    H3 H H1 (List.replicate j (-1)++List.replicate (n-j) 0) (List.replicate j (-1)++List.replicate (n-j) 0) (List.replicate j (-1)++List.replicate (n-j) 0))
   n ?_ lf 0 _ _ (Nat.zero_le _) (by omega) ?_
  · rintro j tm H1 hj ⟨hl,h1,h2,h4,h6,h22,h23,hN,g0,g1,g2,g3,g4⟩;by_cases hjn:j<n
    · have hlt:decide ((j:Int)<(n:Int))=true:=by simp;omega
      have hw:IntKind.i64.wrap ((j:Int)+1)=((j+1:Nat):Int):=by rw [wrap64 _ (by omega) (by omega)];rfl
      have hln:j+(n-j)=n:=by omega
      generalize hB:evalCode _ _ _ _ _ _ tm H1 []=R;simp only [go_sem,hl,h1,h2,h4,h6,h22,h23,hlt,hw,g1,g2,g3,hjn,hln,List.length_append] at hB;subst hB;have hset:(List.map iC (List.replicate j (-1)++List.replicate (n-j) 0)).set j (.int .i64 (-1))=(List.replicate (j+1) (-1)++List.replicate (n-(j+1)) 0).map iC:=by rw [map_set_iC,rep_set n j _ _ hjn]
      refine .inl ⟨_,_,rfl,hjn,?_⟩;unfold H3;simp only [go_sem,hl,h1,h2,h4,h6,h22,hw,hN,hset,g1,g2,g3];exact fun i hi=>by rw [get_set_ne _ _ _ _ (by omega),get_set_ne _ _ _ _ (by omega),get_set_ne _ _ _ _ (by omega),g4 i hi]
    · have hj2:j=n:=by omega
      subst hj2;generalize hB:evalCode _ _ _ _ _ _ tm H1 []=R;have hlt:decide ((j:Int)<(j:Int))=false:=by simp
      simp only [go_sem,hl,h22,h23,hlt] at hB;subst hB;simp only [Nat.sub_self,List.replicate_zero,List.append_nil] at g1 g2 g3;refine .inr ⟨rfl,_,_,rfl,⟨g0,g1,g2,g3,g4⟩,?_⟩;simp only [go_sem,hl,h1,h2,h4,h6,hN]
  · unfold H3;simp only [go_sem,f0,f1,f2,f3,Nat.sub_zero,List.replicate_zero,List.nil_append,List.map_replicate,iC];exact ⟨rfl,f4⟩
 clear hF f0 f1 f2 f3 f4;obtain ⟨tm,H1,rfl,h3,hl,h1,h2,h4,h6,hN⟩:=hQ;obtain ⟨g0,g1,g2,g3,g4⟩:=h3;generalize hs0:(BS.mk (List.replicate n (-1)) (List.replicate n (-1)) ((List.replicate n (-1)).set i 0) [(i:Int)])=s0;have hw0:WfS n 0 s0:=by
  subst hs0;refine ⟨by simp,by simp,by simp,?_,?_⟩
  · intro a ha;simp at ha;subst ha;refine ⟨by omega,by omega,?_⟩;show 0≤gi ((List.replicate n (-1)).set i 0) i;simp [gi_set,hi]
  · intro x hx;rcases List.mem_or_eq_of_mem_set hx with hx|rfl
    · have:=List.eq_of_mem_replicate hx;omega
    · omega
 have hM0:neg s0.fa+s0.q.length=n:=by
  subst hs0;have h0:neg (List.replicate n (-1))=n:=by simp [neg,List.countP_replicate]
  have:=neg_set (List.replicate n (-1)) i 0 (by simp;exact hi) (by simp [gi,hi]) (by omega);show neg ((List.replicate n (-1)).set i 0)+1=n;omega
 simp only [go_sem,hl,h1,h2,h4,h6,g1,g2,g3,hi,bs28,map_set_iC,List.length_replicate];generalize hL:loopC _ _ _ _ _ _ _ _ _ _=L;let Q (L:CRes):Prop:= ∃tm H' m,L= .exit 2 tm H' []∧m≤n∧(iterS (adjN adj) m s0).q= []∧WfS n (3000000000000*m) (iterS (adjN adj) m s0)∧H3 H H' (iterS (adjN adj) m s0).fr (iterS (adjN adj) m s0).ed (iterS (adjN adj) m s0).fa∧tm.length=101∧getT tm 4= .lv 0 [.nilsl,.nilsl,.nilsl]∧
  getT tm 6= .lv 0 [.ref H.n 0 0 1 n false,.ref (H.n+1) 0 0 1 n false,.ref (H.n+2) 0 0 1 n false]
 have hQ : Q L:=by
  subst hL;refine loop_up _ Q
   (fun j tm H1=>tm.length=101∧getT tm 2= .lv 0 [ss,es]∧getT tm 4= .lv 0 [.nilsl,.nilsl,.nilsl]∧
    getT tm 6= .lv 0 [.ref H.n 0 0 1 n false,.ref (H.n+1) 0 0 1 n false,.ref (H.n+2) 0 0 1 n false]∧
    H3 H H1 (iterS (adjN adj) j s0).fr (iterS (adjN adj) j s0).ed (iterS (adjN adj) j s0).fa∧
    WfS n (3000000000000*j) (iterS (adjN adj) j s0)∧j+(neg (iterS (adjN adj) j s0).fa+(iterS (adjN adj) j s0).q.length)=n∧
    QV (H.n+3) (n-neg (iterS (adjN adj) j s0).fa) H1 (getT tm 8) (iterS (adjN adj) j s0).q)
   n ?_ lf 0 _ _ (Nat.zero_le _) (by omega) ?_
  · rintro j tm H1 hj ⟨hl,h2,h4,h6,⟨g0,g1,g2,g3,g4⟩,hw,hM,hqv⟩;generalize hsj:iterS (adjN adj) j s0=s at*;generalize h8:getT tm 8=v at*;generalize hB:evalCode _ _ _ _ _ _ tm H1 []=R
    cases hq:s.q with
    | nil=>
      have hlen0:=hqv.len;rw [hq] at hlen0;have hgt:decide (((0:Nat):Int)>0)=false:=rfl;simp only [go_sem,hl,h8,hqv.opdV,hlen0,List.length_nil,hgt] at hB;subst hB;refine .inr ⟨rfl,_,_,j,rfl,hj,by rw [hsj,hq],by rw [hsj];exact hw,by rw [hsj];exact ⟨g0,g1,g2,g3,g4⟩,?_⟩;simp only [go_sem,hl,h4,h6]
    | cons a q=>
      have hlen0:=hqv.len;rw [hq] at hlen0 hqv;obtain ⟨p,p1,p2,p3⟩:=hqv.head;obtain ⟨ha0,han,hag⟩:=hw.qok a (by rw [hq];simp);obtain ⟨atx,rfl⟩: ∃t:Nat,a=t:=⟨a.toNat,by omega⟩;have hgt:decide (((q.length+1:Nat):Int)>0)=true:=by rw [decide_eq_true_eq];omega
      obtain ⟨r,hr0⟩: ∃r,er[atx]? =some r:=⟨er[atx]'(by omega),by simp⟩;obtain ⟨x,rows,rfl,hadj,hx,hxs,hee⟩:=hg.row atx r hr0;obtain ⟨hrRR,hrlf,hto⟩:=htot rows (List.mem_of_getElem? hadj);have hts:adjN adj atx=rows.map fun e=>(toE e).toNat:=by simp [adjN,hadj]
      simp only [go_sem,hl,h8,h2,hqv.opdV,he.opdV,hx.opdV,hx.len,hlen0,hgt,p1,p2,p3,he.ix (k:=1) hr0 rfl] at hB;revert hB;generalize hL:loopC _ _ _ _ _ _ _ _ _ _=L;intro hB;let ts:=adjN adj atx;let Q2 (L:CRes):Prop:= ∃tm H',L= .exit 4 tm H' []∧H3 H H' (relaxN atx ts rows.length s).fr (relaxN atx ts rows.length s).ed (relaxN atx ts rows.length s).fa∧tm.length=101∧getT tm 2= .lv 0 [ss,es]∧getT tm 4= .lv 0 [.nilsl,.nilsl,.nilsl]∧
       getT tm 6= .lv 0 [.ref H.n 0 0 1 n false,.ref (H.n+1) 0 0 1 n false,.ref (H.n+2) 0 0 1 n false]∧QV (H.n+3) (n-neg (relaxN atx ts rows.length s).fa) H' (getT tm 8) (relaxN atx ts rows.length s).q
      have hQ2:Q2 L:=by
       subst hL;refine loop_up _ Q2
        (fun k tm H1=>tm.length=101∧getT tm 2= .lv 0 [ss,es]∧getT tm 4= .lv 0 [.nilsl,.nilsl,.nilsl]∧
         getT tm 6= .lv 0 [.ref H.n 0 0 1 n false,.ref (H.n+1) 0 0 1 n false,.ref (H.n+2) 0 0 1 n false]∧getT tm 9= .int .i64 atx∧getT tm 57=x∧getT tm 58= .int .i64 rows.length∧getT tm 59= .int .i64 k∧
         H3 H H1 (relaxN atx ts k s).fr (relaxN atx ts k s).ed (relaxN atx ts k s).fa∧QV (H.n+3) (n-neg (relaxN atx ts k s).fa) H1 (getT tm 8) (relaxN atx ts k s).q)
        rows.length ?_ lf 0 _ _ (Nat.zero_le _) (by omega) ?_
       · rintro e tm H1 hj2 ⟨hl,h2,h4,h6,h9,h57,h58,h59,⟨g0,g1,g2,g3,g4⟩,hqv⟩;generalize hB:evalCode _ _ _ _ _ _ tm H1 []=R;by_cases hjn:e<rows.length
         · obtain ⟨hw2,hM2,hga,l2,hq2⟩:=relaxN_wf hw atx ts (by rw [show ts=_ from hts];intro t ht;simp at ht;obtain ⟨y,hy,rfl⟩:=ht;have:=hto y hy;omega) (by simpa using hag) (by omega) (by omega) e;obtain ⟨r,hr1⟩: ∃r,rows[e]? =some r:=⟨rows[e],by simp [hjn]⟩;have hm:=List.mem_of_getElem? hr1;obtain ⟨t0,t1⟩:=hto r hm;obtain ⟨a1,b1,c1,n1,y,bl,rfl,rfl,hy,-⟩:=hee r hm;obtain ⟨t,rfl⟩: ∃t:Nat,n1=t:=⟨n1.toNat,by have:0≤n1:=t0;omega⟩;have htn:t<n:=by have:(t:Int)<n:=t1;omega
           have hrel:relaxN atx ts (e+1) s=relax atx e (relaxN atx ts e s) t:=by
            have:ts[e]? =some t:=by rw [show ts=_ from hts,List.getElem?_map,hr1];rfl
            simp [relaxN,this]
           rw [hrel];generalize relaxN atx ts e s=s' at*;have hlt:decide ((e:Int)<(rows.length:Int))=true:=by simp;omega
           have hwr:IntKind.i64.wrap ((e:Int)+1)=((e+1:Nat):Int):=by rw [wrap64 _ (by omega) (by omega)];rfl
           have hfa:=get_iC (l:=s'.fa) (i:=t) (by rw [hw2.lfa];exact htn);have hfb:=get_iC (l:=s'.fa) (i:=atx) (by rw [hw2.lfa];omega);have hbb:gi s'.fa atx≤3000000000000*j+e:=(hw2.bnd _ (List.mem_of_getElem? (gi_some (by rw [hw2.lfa];omega)))).2;have hwb:IntKind.i64.wrap (gi s'.fa atx+1)=gi s'.fa atx+1:=by rw [wrap64 _ (by omega) (by omega)]
           have han2:atx<n:=by omega
           generalize h8:getT tm 8=v at*
           cases hc:decide (gi s'.fa t<0) with
           | false=>
             have hc2: ¬gi s'.fa t<0:=by simpa using hc
             simp only [go_sem,hl,h2,h6,h9,h57,h58,h59,hx.opdV,hy.opdV,hy.okCell,hlt,hwr,hx.ix (k:=4) hr1 rfl,g3,htn,hfa,hc] at hB;subst hB;refine .inl ⟨_,_,rfl,hjn,?_⟩;rw [show relax atx e s' t=s' by simp [relax,hc2]];unfold H3;simp only [go_sem,hl,h2,h4,h6,h9,h57,h58,h8,hwr,g1,g2,g3];exact ⟨⟨g0,g4⟩,hqv⟩
           | true=>
             have hc2:gi s'.fa t<0:=by simpa using hc
             have hrx:relax atx e s' t=⟨s'.fr.set t atx,s'.ed.set t e,s'.fa.set t (gi s'.fa atx+1),s'.q++ [(t:Int)]⟩:=by simp [relax,hc2]
             generalize hH2:((H1.set H.n (.cells 0 0 0 ((s'.fr.set t atx).map iC))).set (H.n+1) (.cells 0 0 0 ((s'.ed.set t e).map iC))).set (H.n+2) (.cells 0 0 0 ((s'.fa.set t (gi s'.fa atx+1)).map iC))=H2;have hHn:H2.n=H1.n:=by rw [←hH2];simp only [n_set]
             have hq3:QV (H.n+3) (n-neg s'.fa) H2 v s'.q:=hqv.ext fun i h1 h2=>by rw [←hH2,get_set_ne _ _ _ _ (by omega),get_set_ne _ _ _ _ (by omega),get_set_ne _ _ _ _ (by omega)]
             have hqn:s'.q≠ []:=by rw [hq2,hq];simp
             obtain ⟨v',H3',happ,hqv',hn3,hge⟩:=hq3.append (t:Int) hqn (by omega) (by omega) (by omega);have hng:=neg_set s'.fa t (gi s'.fa atx+1) (by rw [hw2.lfa];exact htn) hc2 (by omega);have hnl:neg s'.fa≤n:=by rw [←hw2.lfa];exact List.countP_le_length
             simp only [go_sem,hl,h2,h6,h8,h9,h57,h58,h59,hx.opdV,hy.opdV,hy.okCell,hqv.opdV,hlt,hwr,hx.ix (k:=4) hr1 rfl,g1,g2,g3,htn,han2,hfa,hfb,hc,hwb,hw2.lfr,hw2.led,hw2.lfa,map_set_iC,bs28,app28,hH2,happ] at hB;subst hB;refine .inl ⟨_,_,rfl,hjn,?_⟩;rw [hrx];have e0:H2.get H.n=some (.cells 0 0 0 ((s'.fr.set t atx).map iC)):=by rw [←hH2];simp only [go_sem,g1]
             have e1:H2.get (H.n+1)=some (.cells 0 0 0 ((s'.ed.set t e).map iC)):=by rw [←hH2];simp only [go_sem,g2]
             have e2:H2.get (H.n+2)=some (.cells 0 0 0 ((s'.fa.set t (gi s'.fa atx+1)).map iC)):=by rw [←hH2];simp only [go_sem,g3]
             have e3: ∀i,i<H.n→H2.get i=H.get i:=fun i hi=>by rw [←hH2,get_set_ne _ _ _ _ (by omega),get_set_ne _ _ _ _ (by omega),get_set_ne _ _ _ _ (by omega),g4 i hi]
             have hqe:n-neg s'.fa+1=n-neg (s'.fa.set t (gi s'.fa atx+1)):=by omega
             rw [hqe] at hqv';unfold H3;simp only [go_sem,hl,h2,h4,h6,h9,h57,h58,hwr];rw [hqv'.opdV];exact ⟨⟨by omega,by rw [hge _ (by omega),e0],by rw [hge _ (by omega),e1],by rw [hge _ (by omega),e2],fun i hi=>by rw [hge _ (by omega),e3 i hi]⟩,hqv'⟩
         · have hj3:e=rows.length:=by omega
           subst hj3;have hlt:decide ((rows.length:Int)<(rows.length:Int))=false:=by simp
           simp only [go_sem,hl,h58,h59,hlt] at hB;subst hB;refine .inr ⟨rfl,_,_,rfl,⟨g0,g1,g2,g3,g4⟩,?_⟩;simp only [go_sem,hl,h2,h4,h6];exact hqv
       · rw [←hq] at hqv;unfold H3;simp only [go_sem,hl,h2,h4,h6,h8,relaxN,g1,g2,g3,Int.natCast_zero];exact ⟨⟨g0,g4⟩,hqv⟩
      obtain ⟨tm2,H2,rfl,⟨k0,k1,k2,k3,k4⟩,hl2,h22,h24,h26,hqv2⟩:=hQ2;have htsl:(adjN adj atx).length=rows.length:=by rw [hts];simp
      obtain ⟨-,-,-,l2,hq2⟩:=relaxN_wf hw atx ts (by rw [show ts=_ from hts];intro t ht;simp at ht;obtain ⟨y,hy,rfl⟩:=ht;have:=hto y hy;omega) (by simpa using hag) (by omega) (by omega) rows.length;have hstep:stepS (adjN adj) s= {relaxN atx ts rows.length s with q:=(relaxN atx ts rows.length s).q.tail}:=by simp only [stepS,hq,Int.toNat_natCast,htsl];rfl
      have hwf2:=stepS_wf hw (adjN adj) atx q hq (by rw [Int.toNat_natCast,hts];intro t ht;simp at ht;obtain ⟨y,hy,rfl⟩:=ht;have:=hto y hy;omega) (by omega);have hit:iterS (adjN adj) (j+1) s0=stepS (adjN adj) s:=by simp only [iterS,hsj]
      rw [hq] at hq2;rw [hq2] at hqv2;obtain ⟨v',hsl,hqv3⟩:=QV.slice hqv2 pr;generalize h8':getT tm2 8=v2 at*;simp only [go_sem,hl2,h22,h8',hqv2.opdV,und28s,hsl] at hB;subst hB;have hjn:j<n:=by rw [hq] at hM;simp at hM;omega
      refine .inl ⟨_,_,rfl,hjn,?_⟩;rw [hit];simp only [Int.toNat_natCast,htsl] at hwf2;have hlen2:rows.length≤3000000000000:=hrRR;have hw3:WfS n (3000000000000*((j+1:Nat):Int)) (stepS (adjN adj) s):=⟨hwf2.1.lfr,hwf2.1.led,hwf2.1.lfa,hwf2.1.qok,fun x hx=>by have:=hwf2.1.bnd x hx;omega⟩;refine ⟨by simp only [go_sem,hl2],by simp only [go_sem,hl2,h22],by simp only [go_sem,hl2,h24],by simp only [go_sem,hl2,h26],?_,hw3,by omega,?_⟩
      · rw [hstep];exact ⟨k0,k1,k2,k3,k4⟩
      · rw [hstep];simp only [go_sem,hl2,hqv3.opdV,hq2,List.cons_append,List.tail_cons];exact hqv3
  · unfold H3;subst hs0;simp only [go_sem,hl,h1,h2,h4,h6,g1,g2,g3,iterS,List.length_replicate,hi,Int.natCast_zero];refine ⟨⟨g0,fun i' hi'=>by rw [get_set_ne _ _ _ _ (by omega),g4 i' hi']⟩,?_,?_,.inl rfl⟩
    · exact hw0
    · simpa using hM0
 obtain ⟨tm,H1,m,rfl,hmn,hq,hw,h3,hl,h4,h6⟩:=hQ;simp only [go_sem,hl,h4,h6];refine ⟨_,m,res33 pr _ _ 0 _ _ _ (by simp only [go_sem,hl]),hmn,?_,?_,?_⟩
 · subst hs0;exact hq
 · subst hs0;exact hw
 · subst hs0;exact h3
end
open Go Go.Proofs.Tryz
set_option maxRecDepth 100000
theorem mapH_iC (k:Nat) (l:List Int) (H:Hp):mapH (pub (k+1)) (l.map iC) H=some (l.map iC,H):=by
 induction l with
 |nil=>rfl
 | cons a l ih=>
   have e:pub (k+1) (iC a) H=some (iC a,H):=by simp only [iC,pub]
   simp only [List.map_cons,mapH,e,ih]
theorem chunk_iC (l:List Int):chunk 1 l.length (l.map iC)=l.map iR:=by
 induction l with
 |nil=>rfl
 |cons a l ih=>simp only [List.length_cons,chunk,List.map_cons,List.take_succ_cons,List.take_zero,List.drop_succ_cons,List.drop_zero,ih];rfl
theorem pub_ref (k:Nat) (H:Hp) (id gen g d ro:Nat) (l:List Int) (c:Bool) (h:H.get id=some (.cells g d ro (l.map iC))) (hd:d≤gen):
  pub (k+2) (.ref id gen 0 1 l.length c) H=some (.sl (l.map iR) c,H.set id (.cells g d (maxN ro l.length) (l.map iC))):=by
 have h1:sub (l.map iC) 0 l.length=some (l.map iC):=by simp [sub,List.take_of_length_le]
 rw [pub];simp only [h];rw [if_pos ⟨hd,by omega⟩];simp only [Nat.zero_add,Nat.mul_one,h1,fN_eq,fH_eq,mapH_iC,chunk_iC,fLL_eq]
section
variable (pr:Nat→Option (List Val→Hp→FRes)) (lf:Nat)
theorem cc33 (hp:pr 33=none) (k:Nat) (ss es:Val) (sr er:List (List Val)) (i:Nat) (H:Hp) (hs:IsSl ss sr) (he:IsSl es er) (hn:sr.length≤400) (hlf:sr.length<lf)
  (adj:List (List (List Val))) (hg:OkG er adj) (hlen:er.length=sr.length) (hi:i<sr.length) (htot: ∀l∈adj,l.length≤3000000000000∧l.length<lf∧ ∀e∈l,0≤toE e∧toE e<sr.length):
  ∃ H' m,(∀tm,retC (E1 pr) 33 H.n tm (evalFn (E1 pr) okd lf (k+1) 33 [.agg [ss,es],.int .i64 i] H)= .ok (.agg [.sl ((iterS (adjN adj) m (bs0 sr.length i)).fr.map iR) false,.sl ((iterS (adjN adj) m (bs0 sr.length i)).ed.map iR) false,.sl ((iterS (adjN adj) m (bs0 sr.length i)).fa.map iR) false]) tm H')∧m≤sr.length∧
    (iterS (adjN adj) m (bs0 sr.length i)).q= []∧WfS sr.length (3000000000000*m) (iterS (adjN adj) m (bs0 sr.length i))∧Ext H H':=by
 obtain ⟨H1,m,h1,hmn,h2,h3,h4⟩:=c33 pr lf hp k ss es sr er i H hs he hn hlf adj hg hlen hi htot;generalize hse:iterS (adjN adj) m (bs0 sr.length i)=s at*;obtain ⟨g0,g1,g2,g3,g4⟩:=h4;have n1:H.n≠H.n+1:=by omega
 have n2:H.n≠H.n+2:=by omega
 have n3:H.n+1≠H.n+2:=by omega
 have p1:=pub_ref 47 H1 H.n 0 0 0 0 s.fr false g1 (Nat.le_refl _);have p2:=pub_ref 47 _ (H.n+1) 0 0 0 0 s.ed false ((get_set_ne H1 H.n (H.n+1) (.cells 0 0 (maxN 0 s.fr.length) (s.fr.map iC)) n1.symm).trans g2) (Nat.le_refl _);have p3:=pub_ref 47 _ (H.n+2) 0 0 0 0 s.fa false (((get_set_ne _ (H.n+1) (H.n+2) (.cells 0 0 (maxN 0 s.ed.length) (s.ed.map iC)) n3.symm).trans (get_set_ne H1 H.n (H.n+2) (.cells 0 0 (maxN 0 s.fr.length) (s.fr.map iC)) n2.symm)).trans g3) (Nat.le_refl _);simp only [h3.lfr,h3.led,h3.lfa] at p1 p2 p3;generalize hF:Hp.set (Hp.set (Hp.set H1 _ _) _ _) _ _=F at p3;have hE:Ext H F:=by rw [←hF];exact Ext.set (Ext.set (Ext.set ⟨by omega,g4⟩ (Nat.le_refl _) _) (by omega) _) (by omega) _
 refine ⟨gc H.n (.agg [.sl (s.fr.map iR) false,.sl (s.ed.map iR) false,.sl (s.fa.map iR) false]) F,m,fun tm=> ?_,hmn,by rw [hse];exact h2,by rw [hse];exact h3,Ext.gc hE _⟩;rw [hse];rw [show evalFn (E1 pr) okd lf (k+1) 33 [.agg [ss,es],.int .i64 i] H=_ from h1];have hk:(E1 pr).keep 33=false:=by kernel_rfl
 have hpub:pub depthP (.agg [.ref H.n 0 0 1 sr.length false,.ref (H.n+1) 0 0 1 sr.length false,.ref (H.n+2) 0 0 1 sr.length false]) H1=some (.agg [.sl (s.fr.map iR) false,.sl (s.ed.map iR) false,.sl (s.fa.map iR) false],F):=by rw [show depthP=49+1 from rfl,pub];simp only [mapH,p1,p2,p3,fL_eq]
 simp only [retC,hk,Bool.false_eq_true,if_false,hpub]
end
def MV (n0:Nat) (H:Hp) (v:Val) (q:List Int):Prop:=
 (v= .nilsl∧q= [])∨ ∃id j d,v= .ref id (genOf 3+j) 0 1 q.length false∧H.get id=some (.cells (genOf 3+j) d 0 (q.map iC))∧n0≤id∧d≤genOf 3+j∧j<q.length
theorem MV.len {n0 H v q} (h:MV n0 H v q):lenS v=some (.int .i64 q.length):=by rcases h with ⟨rfl,rfl⟩|⟨id,j,d,rfl,-⟩<;>rfl
theorem MV.opdV {n0 H v q} (h:MV n0 H v q) (t:Nat):opdV t v=v:=by rcases h with ⟨rfl,rfl⟩|⟨id,j,d,rfl,-⟩<;>rfl
theorem MV.noLoc {n0 H v q} (h:MV n0 H v q):noLoc v=true:=by rcases h with ⟨rfl,rfl⟩|⟨id,j,d,rfl,-⟩<;>rfl
theorem MV.ext {n0 H H' v q} (h:MV n0 H v q) (he: ∀i,n0≤i→i<H.n→H'.get i=H.get i):MV n0 H' v q:=by
 rcases h with h|⟨id,j,d,rfl,hg,hn,h1⟩
 · exact .inl h
 · exact .inr ⟨id,j,d,rfl,by rw [he id hn (get_lt hg),hg],hn,h1⟩
theorem tyOK_gen (j:Nat) (h:j<1048000):tyOK (genOf 3+j) 3=true:=by
 have h1:(genOf 3+j+1)/1048576=4:=by unfold genOf;omega
 have h2:(genOf 3+j)/1048576=4:=by unfold genOf;omega
 simp [tyOK,tyN,h1,h2]
theorem MV.append {n0 H v q} (h:MV n0 H v q) (a:Int) (hn:n0≤H.n) (hl:q.length<1048000):
  ∃v' H',app1 3 8 v (.int .i64 a) H=some (v',H')∧MV n0 H' v' (q++ [a])∧H.n≤H'.n∧ ∀i,i<n0→H'.get i=H.get i:=by
 rcases h with ⟨rfl,rfl⟩|⟨id,j,d,rfl,hg,hid,hd,hj⟩
 · exact ⟨_,_,rfl,.inr ⟨H.n,0,genOf 3,rfl,get_push_new _ _,hn,Nat.le_refl _,by simp⟩,Nat.le_succ _,fun i hi=>get_push_old _ _ _ (by omega)⟩
 · refine ⟨.ref id (genOf 3+j+1) 0 1 (q.length+1) false,H.set id (.cells (genOf 3+j+1) d 0 (q.map iC++ [iC a])),?_,.inr ⟨id,j+1,d,by simp;omega,?_,hid,by omega,by simp;omega⟩,by rw [n_set];exact Nat.le_refl _,fun i hi=>get_set_ne _ _ _ _ (by omega)⟩
   · simp only [app1,hg];rw [if_pos ⟨trivial,by unfold roomN;omega,hd⟩];simp only [Bool.false_eq_true,if_false];rw [if_pos ⟨trivial,by simp,Nat.zero_le _,tyOK_gen j (by omega)⟩];rfl
   · rw [get_set_same _ _ _ (by rw [hg];rfl)];simp;omega
open Go Go.Proofs.Tryz
set_option maxRecDepth 100000
def Half (q c:List Int) (i:Nat):Prop:=c.length=q.length∧ ∀x,x<q.length→gi c x=if x<i∨q.length<x+1+i then gi q (q.length-1-x) else gi q x
theorem half_swap {q c:List Int} {i:Nat} (h:Half q c i) (hi:i+i+1<q.length):Half q ((c.set i (gi c (q.length-1-i))).set (q.length-1-i) (gi c i)) (i+1):=by
 obtain ⟨h1,h2⟩:=h;refine ⟨by simp [h1],fun x hx=> ?_⟩;simp only [gi_set,List.length_set,h1];by_cases e1:q.length-1-i=x
 · rw [if_pos ⟨e1,by omega⟩,if_pos (by omega),h2 i (by omega),if_neg (by omega)];congr 1;omega
 · rw [if_neg (by omega)];by_cases e2:i=x
   · rw [if_pos ⟨e2,by omega⟩,if_pos (by omega),h2 _ (by omega),if_neg (by omega)];congr 1;omega
   · rw [if_neg (by omega),h2 x hx];by_cases e3:x<i∨q.length<x+1+i
     · rw [if_pos e3,if_pos (by omega)]
     · rw [if_neg e3,if_neg (by omega)]
theorem half_end {q c:List Int} {i:Nat} (h:Half q c i) (hi:q.length≤i+i+1):c=q.reverse:=by
 obtain ⟨h1,h2⟩:=h;refine List.ext_getElem? fun x=> ?_;by_cases hx:x<q.length
 · rw [gi_some (by rw [h1];exact hx),List.getElem?_reverse hx,gi_some (by omega),h2 x hx];congr 1;split
   · rfl
   · congr 1;omega
 · rw [List.getElem?_eq_none (by omega),List.getElem?_eq_none (by simp;omega)]
section
variable (pr:Nat→Option (List Val→Hp→FRes)) (lf:Nat)
theorem c36 (hp:pr 36=none) (k n0:Nat) (v:Val) (q:List Int) (H:Hp) (h:MV n0 H v q) (hlf:q.length<lf) (hs:q.length<1000000):
  ∃H',EV pr lf (k+1) 36 [v] H= .ret (.tup []) H'∧MV n0 H' v q.reverse∧H'.n=H.n∧ ∀i,i<n0→H'.get i=H.get i:=by
 unfold EV;rw [evalFn_S (E1 pr) okd lf k 36 27 _ H f36 _ hp (fns_36 pr) rfl rfl];have hw:IntKind.i64.wrap ((q.length:Int)-1)=(q.length:Int)-1:=wrap64 _ (by omega) (by omega);simp only [go_sem,h.opdV,h.len,hw];generalize hL:loopC _ _ _ _ _ _ _ _ _ _=L;let Q (L:CRes):Prop:= ∃tm H',L= .exit 0 tm H' []∧MV n0 H' v q.reverse∧H'.n=H.n∧ ∀i,i<n0→H'.get i=H.get i;have hQ:Q L:=by
  subst hL;refine loop_up _ Q (fun i tm H1=>tm.length=28∧getT tm 0=v∧getT tm 2= .int .i64 i∧getT tm 3= .int .i64 ((q.length:Int)-1-i)∧ ∃c,Half q c i∧MV n0 H1 v c∧H1.n=H.n∧ ∀i,i<n0→H1.get i=H.get i)
   q.length ?_ lf 0 _ _ (Nat.zero_le _) (by omega) ?_
  · rintro i tm H1 hj ⟨hl,h0,h2,h3,c,hc,hm,hn,hk⟩;generalize hB:evalCode _ _ _ _ _ _ tm H1 []=R;by_cases hi:i+i+1<q.length
    · rcases hm with ⟨rfl,rfl⟩|⟨id,j,d,rfl,hg,hid,hd,hj⟩
      · have:=hc.1;simp at this;omega
      have hcl:=hc.1;obtain ⟨jn,hjn,hjn2⟩: ∃jn:Nat,(q.length:Int)-1-i=jn∧jn=q.length-1-i:=⟨q.length-1-i,by omega,rfl⟩;rw [hjn] at h3;have hlt:decide ((i:Int)<(jn:Int))=true:=by simp;omega
      have hi1:i<c.length:=by omega
      have hj1:jn<c.length:=by omega
      have hgi:=get_iC hi1;have hgj:=get_iC hj1;have hij:i≠jn:=by omega
      have hw1:IntKind.i64.wrap ((i:Int)+1)=((i+1:Nat):Int):=by rw [wrap64 _ (by omega) (by omega)];rfl
      have hw2:IntKind.i64.wrap ((jn:Int)-1)=(q.length:Int)-1-((i+1:Nat):Int):=by rw [wrap64 _ (by omega) (by omega)];omega
      simp only [go_sem,hl,h0,h2,h3,hlt,hg,hd,hi1,hj1,hgi,hgj,hw1,hw2,map_set_iC] at hB;subst hB;refine .inl ⟨_,_,rfl,by omega,?_⟩;simp only [go_sem,hl,h0];refine ⟨(c.set i (gi c jn)).set jn (gi c i),by rw [hjn2];exact half_swap hc hi,.inr ⟨id,j,genOf 3+j,by simp,?_,hid,Nat.le_refl _,by simpa using hj⟩,hn,fun i' hi'=> ?_⟩
      · rw [get_set_same _ _ _ (by rw [get_set_same _ _ _ (by rw [hg];rfl)];rfl)]
      · rw [get_set_ne _ _ _ _ (by omega),get_set_ne _ _ _ _ (by omega),hk i' hi']
    · have hlt:decide ((i:Int)<(q.length:Int)-1-i)=false:=by simp;omega
      simp only [go_sem,hl,h2,h3,hlt] at hB;subst hB;refine .inr ⟨rfl,_,_,rfl,?_,hn,hk⟩;rw [←half_end hc (by omega)];exact hm
  · simp only [go_sem,Int.natCast_zero,Int.sub_zero];exact ⟨q,⟨rfl,fun x hx=>by rw [if_neg (by omega)]⟩,h,by first|exact fun _ _=>trivial|exact fun _ _=>rfl⟩
 obtain ⟨tm,H',rfl,h1,h2,h3⟩:=hQ;simp only [go_sem];exact ⟨_,rfl,h1,h2,h3⟩
end
open Go Go.Proofs.Tryz
set_option maxRecDepth 100000
structure Gph (lf:Nat) (ss es:Val) (sr er:List (List Val)) (adj:List (List (List Val))):Prop where
  hs:IsSl ss sr
  he:IsSl es er
  hg:OkG er adj
  hsl:sr.length<4611686018427387904
  hn:er.length<lf
  hm:sr.length<lf
  hrow: ∀l∈adj,l.length≤3000000000000∧l.length<lf
  big:1000000000000000<lf
theorem shape_of {n:Nat} {adj:List (List (List Val))} (h:shapeB n adj=true):0<n∧n≤400∧adj.length=n∧ ∀l∈adj,∀e∈l,0≤toE e∧toE e<n:=by unfold shapeB at h;simp only [Bool.and_eq_true,Bool.not_eq_true',beq_eq_false_iff_ne,decide_eq_true_eq,beq_iff_eq,List.all_eq_true] at h;exact ⟨by omega,h.2.1,h.2.2.1,fun l hl e he=>h.2.2.2 l hl e he⟩
theorem bs0_wf (n i:Nat) (hi:i<n):WfS n 0 (bs0 n i):=by
 refine ⟨by simp [bs0],by simp [bs0],by simp [bs0],?_,?_⟩
 · intro a ha;simp [bs0] at ha;subst ha;refine ⟨by omega,by omega,?_⟩;show 0≤gi ((List.replicate n (-1)).set i 0) i;simp [gi_set,hi]
 · intro x hx;rcases List.mem_or_eq_of_mem_set hx with hx|rfl
   · have:=List.eq_of_mem_replicate hx;omega
   · omega
theorem bs0_par (n i:Nat) (hi:i<n) (A):Par n i A (bs0 n i):=by refine ⟨by simp [bs0,gi_set,hi],fun k hk hka hki=> ?_⟩;exfalso;simp only [bs0,gi_set] at hka;rw [if_neg (by omega)] at hka;simp [gi,hk] at hka
def noPr (pr:Nat→Option (List Val→Hp→FRes)):Prop:= ∀f,f∈ [9,10,12,14,16,18,20,22,25,30,31,32,33,36,37,38,40,4,5,55,56,57,58,59,61,62,63,64,97,98,99,100,101,104,154,156]→pr f=none
def Srch (adj:List (List (List Val))) (n i:Nat) (s:BS):Prop:= ∃m,s=iterS (adjN adj) m (bs0 n i)∧m≤n∧s.q= []∧WfS n (3000000000000*m) s
theorem Srch.par {adj n i s} (h:Srch adj n i s) (hi:i<n) (hA: ∀a,a<n→ ∀t∈adjN adj a,t<n):Par n i (adjN adj) s∧ ∃b,-1≤b∧WfS n b s:=by obtain ⟨m,rfl,-,-,-⟩:=h;exact iterS_par (bs0_par n i hi _) (bs0_wf n i hi) hA (by omega) m
theorem bs0_deep {n i:Nat} (hi:i<n):Deep n (bs0 n i).fa:=by
 intro x hx;change x∈(List.replicate n (-1)).set i 0 at hx;show x+(neg ((List.replicate n (-1:Int)).set i 0):Int)<n;have h1:neg (List.replicate n (-1:Int))=n:=by simp [neg,List.countP_replicate]
 have h2:=neg_set (List.replicate n (-1)) i 0 (by simp;exact hi) (by simp [gi,hi]) (by omega);rcases List.mem_or_eq_of_mem_set hx with hx|rfl
 · have:=List.eq_of_mem_replicate hx;omega
 · omega
theorem Srch.deep {adj n i s} (h:Srch adj n i s) (hi:i<n) (hA: ∀a,∀t∈adjN adj a,t<n): ∀x∈s.fa,x<n:=by obtain ⟨m,rfl,-,-,-⟩:=h;intro x hx;have:=iterS_deep (bs0_par n i hi _) (bs0_wf n i hi) (bs0_deep hi) (fun a _=>hA a) (by omega) m x hx;omega
theorem adjN_lt {n:Nat} {adj:List (List (List Val))} (h: ∀l∈adj,∀e∈l,0≤toE e∧toE e<n) (a:Nat): ∀t∈adjN adj a,t<n:=by
 intro t ht;unfold adjN at ht
 cases ha:adj[a]? with
 |none=>rw [ha] at ht;simp at ht
 | some l=>
   rw [ha] at ht;simp at ht;obtain ⟨e,he,rfl⟩:=ht;have:=h l (List.mem_of_getElem? ha) e he;omega
def TreeW (A:Nat→List Nat) (s:BS) (r:Nat):Nat→List Int→Nat→Prop
 |i,[],j=>i=j
 |i,a::w,j=> ∃e t:Nat,a=e∧(A i)[e]? =some t∧t<s.fa.length∧0≤gi s.fa t∧t≠r∧gi s.fr t=i∧gi s.ed t=e∧TreeW A s r t w j
theorem TreeW.leads {A s r}: ∀ {w:List Int} {i j:Nat},TreeW A s r i w j→Leads A i w j
 | [],_,_,h=>h
 |_::_,_,_,⟨e,t,h1,h2,_,_,_,_,_,h3⟩=>⟨e,t,h1,h2,h3.leads⟩
section
variable (pr:Nat→Option (List Val→Hp→FRes)) (lf:Nat)
theorem c14 (hp:noPr pr) (k:Nat) (ss es:Val) (sr er:List (List Val)) (adj:List (List (List Val))) (i j:Int) (H:Hp) (g:Gph lf ss es sr er adj):
  ∃ H' v e,EV pr lf (k+6) 14 [.agg [ss,es],.int .i64 i,.int .i64 j] H= .ret (.tup [v,.int .i64 e]) H'∧Ext H H'∧
    ((e≠0∧v= .nilsl∧(e=(indexN sr.length adj [i,j]:Nat)∨(indexN sr.length adj [i,j]=0∧e=4∧ ∃(a b:Nat) (s:BS),i=a∧j=b∧a<sr.length∧b<sr.length∧Srch adj sr.length a s∧gi s.fa b<0)))∨(e=0∧indexN sr.length adj [i,j]=0∧ ∃(a b:Nat) (w:List Int) (s:BS),i=a∧j=b∧a<sr.length∧b<sr.length∧shapeB sr.length adj=true∧MV H.n H' v w∧Srch adj sr.length a s∧TreeW (adjN adj) s a a w b∧(w.length:Int)=gi s.fa b)):=by
 obtain ⟨hs,he,hg,hsl,hn,hm,hrow,hbig⟩:=g;unfold EV;rw [evalFn_S (E1 pr) okd lf (k+5) 14 46 _ H f14 _ (hp 14 (by decide)) (fns_14 pr) rfl rfl];obtain ⟨H1,h1,e1⟩:=c32 pr lf (hp 32 (by decide)) (hp 9 (by decide)) (hp 30 (by decide)) (hp 55 (by decide)) (hp 31 (by decide)) (hp 56 (by decide)) (hp 97 (by decide)) (hp 57 (by decide)) k ss es (.sl [[.int .i64 i],[.int .i64 j]] true) sr er adj [i,j] H hs he hg hsl hn (fun l hl=>(hrow l hl).2) (.inr ⟨true,rfl⟩) (by simp;omega) (by simp);simp only [go_sem,hs.opdV,hs.okCell,he.okCell,bs28b,h1];have e2:=Ext.gc e1 (.int .i64 (indexN sr.length adj [i,j]));revert e2;generalize gc _ _ H1=H2;intro e2
 cases hb:((indexN sr.length adj [i,j]:Nat):Int) !=0 with
 | true=>
   simp only [go_sem];have:((indexN sr.length adj [i,j]:Nat):Int)≠0:=by simpa using hb
   exact ⟨_,_,_,rfl,e2,.inl ⟨this,rfl,.inl rfl⟩⟩
 |false=>
 have hix:indexN sr.length adj [i,j]=0:=by simpa using hb
 have hix0:=hix;unfold indexN at hix;split at hix
 · next hsh=>
   split at hix
   · cases hix
   · next hij=>
     obtain ⟨hn0,hn4,hal,hto⟩:=shape_of hsh;simp at hij;obtain ⟨⟨hi0,hi1⟩,hj0,hj1⟩:=hij;obtain ⟨a,rfl⟩: ∃a:Nat,i=a:=⟨i.toNat,by omega⟩;obtain ⟨b,rfl⟩: ∃a:Nat,j=a:=⟨j.toNat,by omega⟩;have hel:er.length=sr.length:=by rw [hg.len,hal]
     obtain ⟨H3,m,h3,hmn,hq3,hw3,e3⟩:=cc33 pr lf (hp 33 (by decide)) (k+4) ss es sr er a H2 hs he hn4 hm adj hg hel (by omega) (fun l hl=>⟨(hrow l hl).1,(hrow l hl).2,fun e he=>hto l hl e he⟩);have hS:Srch adj sr.length a (iterS (adjN adj) m (bs0 sr.length a)):=⟨m,rfl,hmn,hq3,hw3⟩;generalize iterS (adjN adj) m (bs0 sr.length a)=s at*;obtain ⟨hP,b',hb',hW⟩:=hS.par (by omega) (fun a _=>adjN_lt hto a);have hbl:b<s.fa.length:=by rw [hW.lfa];omega
     have hfb:(s.fa.map iR)[b]? =some (iR (gi s.fa b)):=by rw [List.getElem?_map,gi_some hbl];rfl
     have hsl3:IsSl (.sl (s.fa.map iR) false) (s.fa.map iR):= .inr ⟨false,rfl⟩;simp only [go_sem,h3,hsl3.ix (k:=1) hfb rfl,iR]
     cases hc:decide (gi s.fa b<0) with
     | true=>
       simp only [go_sem];exact ⟨_,_,_,rfl,e2.trans e3,.inl ⟨by decide,rfl,.inr ⟨hix0,rfl,a,b,s,rfl,rfl,by omega,by omega,hS,by simpa using hc⟩⟩⟩
     |false=>
     have hc2:0≤gi s.fa b:=by simpa using hc
     simp only [go_sem];generalize hL:loopC _ _ _ _ _ _ _ _ _ _=L;have hB1:gi s.fa b<sr.length:=by have:=hS.deep (by omega) (adjN_lt hto) _ (List.mem_of_getElem? (gi_some hbl));omega
     let Q (L:CRes):Prop:= ∃tm H' v w,L= .exit 0 tm H' []∧tm.length=49∧getT tm 10=v∧MV H.n H' v w∧H3.n≤H'.n∧(∀i,i<H.n→H'.get i=H3.get i)∧TreeW (adjN adj) s a a w.reverse b∧(w.length:Int)=gi s.fa b;have hQ:Q L:=by
      subst hL;refine loop_up _ Q (fun x tm H1=>tm.length=49∧getT tm 1= .int .i64 a∧getT tm 9= .lv 0 [.sl (s.fr.map iR) false,.sl (s.ed.map iR) false,.sl (s.fa.map iR) false]∧
        ∃(kk:Nat) (v:Val) (q:List Int),getT tm 11= .int .i64 kk∧getT tm 10=v∧MV H.n H1 v q∧H3.n≤H1.n∧(∀i,i<H.n→H1.get i=H3.get i)∧kk<sr.length∧0≤gi s.fa kk∧(x:Int)+gi s.fa kk=gi s.fa b∧q.length=x∧TreeW (adjN adj) s a kk q.reverse b)
       (gi s.fa b).toNat ?_ lf 0 _ _ (Nat.zero_le _) (by omega) ?_
      · rintro x tm H1 hx ⟨hl,h1,h9,kk,v,q,h11,h10,hm1,hn1,hk1,hkn,hka,hsum,hql,hld⟩;generalize hB:evalCode _ _ _ _ _ _ tm H1 []=R;by_cases hka2:kk=a
        · subst hka2;have hne:((kk:Int) !=(kk:Int))=false:=by simp
          simp only [go_sem,hl,h1,h11,hne] at hB;subst hB;refine .inr ⟨rfl,_,_,v,q,rfl,?_,?_,hm1,hn1,hk1,hld,?_⟩
          · simp only [go_sem,hl]
          · simp only [go_sem,hl,h10]
          · have:=hP.root;omega
        · have hne:((kk:Int) !=(a:Int))=true:=by simp;omega
          obtain ⟨p,e,hp1,hfr,hed,hadj,hpa,hpe⟩:=hP.par kk hkn hka hka2;have hl1:kk<s.fr.length:=by rw [hW.lfr];exact hkn
          have hl2:kk<s.ed.length:=by rw [hW.led];exact hkn
          have hf1:(s.fr.map iR)[kk]? =some [.int .i64 (p:Int)]:=by rw [List.getElem?_map,gi_some hl1,hfr];rfl
          have hf2:(s.ed.map iR)[kk]? =some [.int .i64 (e:Int)]:=by rw [List.getElem?_map,gi_some hl2,hed];rfl
          have hx1:IsSl (.sl (s.fr.map iR) false) (s.fr.map iR):= .inr ⟨false,rfl⟩;have hx2:IsSl (.sl (s.ed.map iR) false) (s.ed.map iR):= .inr ⟨false,rfl⟩;obtain ⟨v',H',happ,hm2,hn2,hk2⟩:=hm1.append (e:Int) (by have:=e2.1;have:=e3.1;omega) (by omega);simp only [go_sem,hl,h1,h9,h10,h11,hne,hx1.ix (k:=1) hf1 rfl,hx2.ix (k:=1) hf2 rfl,hm1.opdV,bs28,app28,happ] at hB;subst hB;refine .inl ⟨_,_,rfl,by omega,?_⟩;simp only [go_sem,hl,h1,h9];refine ⟨p,_,q++ [(e:Int)],rfl,hm2.opdV _,hm2,by omega,fun i hi=>by rw [hk2 i hi,hk1 i hi],hp1,hpa,by omega,by simp [hql],?_⟩;rw [List.reverse_append];exact ⟨e,kk,rfl,hadj,by rw [hW.lfa];exact hkn,hka,hka2,hfr,hed,hld⟩
      · simp only [go_sem];exact ⟨b,_,[],rfl,rfl,.inl ⟨rfl,rfl⟩,fun _ _=>trivial,by omega,hc2,by omega,rfl,rfl⟩
     obtain ⟨tm,H4,v,w,rfl,hl,h10,hm4,hn4',hk4,hld,hwl⟩:=hQ;obtain ⟨H5,h5,hm5,hn5,hk5⟩:=c36 pr lf (hp 36 (by decide)) (k+4) H.n v w H4 hm4 (by omega) (by omega);have hgc:gc H4.n (.tup []) H5=H5:=by unfold gc;rw [hn5,if_pos (Nat.ble_eq_true_of_le (Nat.le_refl _))]
     simp only [go_sem,hl,h10,hm4.opdV,hm4.noLoc,h5,hgc];refine ⟨_,_,_,rfl,⟨?_,fun i hi=> ?_⟩,.inr ⟨rfl,hix0,a,b,w.reverse,s,rfl,rfl,by omega,by omega,hsh,hm5,hS,hld,by simpa using hwl⟩⟩
     · have:=e2.1;have:=e3.1;omega
     · have:=e2.1;rw [hk5 i hi,hk4 i hi,e3.2 i (by omega),e2.2 i hi]
 · cases hix
end
open Go Go.Proofs.Tryz
set_option maxRecDepth 100000
section
variable (pr:Nat→Option (List Val→Hp→FRes)) (lf:Nat)
theorem c16 (hp:noPr pr) (k:Nat) (ss es:Val) (sr er:List (List Val)) (adj:List (List (List Val))) (H:Hp) (g:Gph lf ss es sr er adj) (hsh:shapeB sr.length adj=true):
  ∃H' s,EV pr lf (k+5) 16 [.agg [ss,es]] H= .ret (.tup [.sl (s.fa.map iR) false,.int .i64 0]) H'∧Ext H H'∧Srch adj sr.length 0 s:=by
 obtain ⟨hs,he,hg,hsl,hn,hm,hrow,hbig⟩:=g;obtain ⟨hn0,hn4,hal,hto⟩:=shape_of hsh;have hel:er.length=sr.length:=by rw [hg.len,hal]
 unfold EV;rw [evalFn_S (E1 pr) okd lf (k+4) 16 9 _ H f16 _ (hp 16 (by decide)) (fns_16 pr) rfl rfl];obtain ⟨H1,h1,e1⟩:=c9 pr lf (hp 9 (by decide)) (hp 30 (by decide)) (hp 55 (by decide)) (hp 31 (by decide)) k ss es sr er adj H hs he hg hsl hn (fun l hl=>(hrow l hl).2);rw [hsh] at h1;have e2:=Ext.gc e1 (.bool true);generalize hG:gc H.n (.bool true) H1=H2 at*;obtain ⟨H3,m,h3,hmn,hq3,hw3,e3⟩:=cc33 pr lf (hp 33 (by decide)) (k+3) ss es sr er 0 H2 hs he hn4 hm adj hg hel (by omega) (fun l hl=>⟨(hrow l hl).1,(hrow l hl).2,fun e he=>hto l hl e he⟩);simp only [Int.natCast_zero] at h3;simp only [go_sem,hs.opdV,hs.okCell,he.okCell,h1,hG,h3];exact ⟨_,_,rfl,e2.trans e3,m,rfl,hmn,hq3,hw3⟩
def reachL (s:BS) (x:Nat):List Int:=((List.range x).filter fun k=>decide (gi s.fa k≥0)).map Int.ofNat
theorem reachL_succ (s:BS) (x:Nat):reachL s (x+1)=if decide (gi s.fa x≥0)=true then reachL s x++ [(x:Int)] else reachL s x:=by unfold reachL;rw [List.range_succ,List.filter_append,List.map_append];by_cases h:gi s.fa x≥0<;>simp [h]
theorem reachL_len (s:BS) (x:Nat):(reachL s x).length≤x:=by unfold reachL;rw [List.length_map];exact Nat.le_trans (List.length_filter_le _ _) (by simp)
end
open Go Go.Proofs.Tryz
set_option maxRecDepth 100000
section
variable (pr:Nat→Option (List Val→Hp→FRes)) (lf:Nat)
theorem c10 (hp:noPr pr) (k:Nat) (ss es:Val) (sr er:List (List Val)) (adj:List (List (List Val))) (H:Hp) (g:Gph lf ss es sr er adj):
  EV pr lf (k+1) 10 [.agg [ss,es]] H= .ret (.bool (shapeB sr.length adj)) H:=by
 obtain ⟨hs,he,hg,hsl,hn,hm,hrow,hbig⟩:=g;unfold EV;rw [evalFn_S (E1 pr) okd lf k 10 47 _ H f10 _ (hp 10 (by decide)) (fns_10 pr) rfl rfl];have hln:((er.length:Int) !=(sr.length:Int))= !(adj.length==sr.length):=by rw [hg.len];cases h:(adj.length==sr.length)<;>simp at h⊢ <;>omega
 simp only [go_sem,hs.opdV,hs.len,hs.okCell,he.okCell,he.opdV,he.len];unfold shapeB
 cases h0:decide ((sr.length:Int)<1) with
 | true=>
   have h1:(sr.length==0)=true:=beq_iff_eq.2 (by have:=of_decide_eq_true h0;omega);simp only [go_sem,h1]
 |false=>
 have h1:(sr.length==0)=false:=beq_eq_false_iff_ne.2 (by have:=of_decide_eq_false h0;omega);simp only [go_sem,h1]
 cases h2:decide ((sr.length:Int)>400) with
 | true=>
   have h3:decide (sr.length≤400)=false:=by simp at h2⊢;omega
   simp only [go_sem,h3]
 |false=>
 have h3:decide (sr.length≤400)=true:=by simp at h2⊢;omega
 simp only [go_sem,h3,hln,he.opdV,he.len]
 cases h4:(adj.length==sr.length) with
 | false=>
   simp only [go_sem]
 |true=>
 simp only [go_sem,he.opdV,he.len];generalize hL:loopC _ _ _ _ _ _ _ _ _ _=L;let B (l:List (List Val)):Bool:=l.all fun e=>decide (0≤toE e)&&decide (toE e<sr.length);let Q (L:CRes):Prop:=(∃tm,L= .exit 0 tm H []∧tm.length=48∧adj.all B=true)∨(∃tm,L= .ret tm H []∧getT tm 2= .bool false∧adj.all B=false);have hQ:Q L:=by
  subst hL;refine loop_up _ Q
   (fun j tm H1=>tm.length=48∧getT tm 25=es∧getT tm 3= .int .i64 sr.length∧getT tm 26= .int .i64 er.length∧getT tm 27= .int .i64 j∧H1=H∧(adj.take j).all B=true)
   er.length ?_ lf 0 _ _ (Nat.zero_le _) (by omega) (by simp [go_sem])
  rintro j tm H1 hj ⟨hl,h25,h3,h26,h27,rfl,ht⟩;generalize hB:evalCode _ _ _ _ _ _ tm H1 []=R;by_cases hjn:j<er.length
  · obtain ⟨r,hr0⟩: ∃r,er[j]? =some r:=⟨er[j],by simp [hjn]⟩;obtain ⟨x,rows,rfl,hadj,hx,hxs,hee⟩:=hg.row j r hr0;have hm:rows∈adj:=List.mem_of_getElem? hadj;have hlt:decide ((j:Int)<(er.length:Int))=true:=by simp;omega
    have hw:IntKind.i64.wrap ((j:Int)+1)=((j+1:Nat):Int):=by rw [wrap64 _ (by have:=hg.small;omega) (by have:=hg.small;omega)];rfl
    have htk:(adj.take (j+1)).all B=B rows:=by rw [List.take_add_one,hadj];simp [ht]
    simp only [go_sem,hl,h25,h26,h27,he.opdV,hx.opdV,hx.len,hlt,he.ix (k:=1) hr0 rfl] at hB;revert hB;generalize hL:loopC _ _ _ _ _ _ _ _ _ _=L;intro hB;let Q2 (L:CRes):Prop:=(∃tm,L= .exit 2 tm H1 []∧tm.length=48∧getT tm 25=es∧getT tm 3= .int .i64 sr.length∧getT tm 26= .int .i64 er.length∧getT tm 27= .int .i64 j∧B rows=true)∨(∃tm,L= .ret tm H1 []∧getT tm 2= .bool false∧B rows=false);have hQ2:Q2 L:=by
     subst hL;refine loop_up _ Q2
      (fun i tm H2=>tm.length=48∧getT tm 25=es∧getT tm 3= .int .i64 sr.length∧getT tm 26= .int .i64 er.length∧getT tm 27= .int .i64 j∧getT tm 31=x∧getT tm 32= .int .i64 rows.length∧getT tm 33= .int .i64 i∧H2=H1∧B (rows.take i)=true)
      rows.length ?_ lf 0 _ _ (Nat.zero_le _) (hrow rows hm).2 (by simp [go_sem,hl,h25,h3,h26,h27,B])
     rintro i tm H2 hi ⟨hl,h25,h3,h26,h27,h31,h32,h33,rfl,ht2⟩;generalize hB:evalCode _ _ _ _ _ _ tm H2 []=R;by_cases hin:i<rows.length
     · obtain ⟨r,hr1⟩: ∃r,rows[i]? =some r:=⟨rows[i],by simp [hin]⟩;have hmr:=List.mem_of_getElem? hr1;obtain ⟨a1,b1,c1,n1,y,bl,rfl,rfl,hy,-⟩:=hee r hmr;have hlt:decide ((i:Int)<(rows.length:Int))=true:=by simp;omega
       have hw:IntKind.i64.wrap ((i:Int)+1)=((i+1:Nat):Int):=by rw [wrap64 _ (by omega) (by omega)];rfl
       have htk2:B (rows.take (i+1))=(decide (0≤n1)&&decide (n1<sr.length)):=by show List.all _ _=_;rw [List.take_add_one,hr1,List.all_append,show List.all (rows.take i) _=true from ht2];simp only [Option.toList,List.all_cons,List.all_nil,Bool.true_and,Bool.and_true];rfl
       cases c1':decide (n1<0) with
       | true=>
         have d1: ¬(0≤n1):=by simp at c1';omega
         simp only [go_sem,hl,h3,h31,h32,h33,hx.opdV,hy.opdV,hy.okCell,hlt,hx.ix (k:=4) hr1 rfl,c1'] at hB;subst hB;refine .inr ⟨rfl,.inr ⟨_,rfl,by simp only [go_sem,hl],?_⟩⟩;show List.all _ _=false;rw [List.all_eq_false];exact ⟨_,hmr,by simp [toE,d1]⟩
       | false=>
         have d1:0≤n1:=by simp at c1';omega
         cases c2':decide (n1≥(sr.length:Int)) with
         | true=>
           have d2: ¬(n1<(sr.length:Int)):=by simp at c2';omega
           simp only [go_sem,hl,h3,h31,h32,h33,hx.opdV,hy.opdV,hy.okCell,hlt,hx.ix (k:=4) hr1 rfl,c1',c2'] at hB;subst hB;refine .inr ⟨rfl,.inr ⟨_,rfl,by simp only [go_sem,hl],?_⟩⟩;show List.all _ _=false;rw [List.all_eq_false];exact ⟨_,hmr,by simp [toE,d2]⟩
         | false=>
           have d2:n1<(sr.length:Int):=by simp at c2';omega
           simp only [go_sem,hl,h3,h31,h32,h33,hx.opdV,hy.opdV,hy.okCell,hlt,hw,hx.ix (k:=4) hr1 rfl,c1',c2'] at hB;subst hB;refine .inl ⟨_,_,rfl,hin,?_⟩;simp only [go_sem,hl,h25,h3,h26,h27,h31,h32,htk2,d1,d2]
     · have hi2:i=rows.length:=by omega
       subst hi2;have hlt:decide ((rows.length:Int)<(rows.length:Int))=false:=by simp
       simp only [go_sem,hl,h32,h33,hlt] at hB;subst hB;rw [List.take_length] at ht2;refine .inr ⟨rfl,.inl ⟨_,rfl,?_⟩⟩;simp only [go_sem,hl,h25,h3,h26,h27,ht2]
    rcases hQ2 with ⟨tm,rfl,hl,h25,h3,h26,h27,hb⟩|⟨tm,rfl,h2,hb⟩
    · simp only [go_sem,hl,h27,hw] at hB;subst hB;refine .inl ⟨_,_,rfl,hjn,?_⟩;simp only [go_sem,hl,h25,h3,h26,htk,hb]
    · simp only [go_sem] at hB;subst hB;exact .inr ⟨rfl,.inr ⟨_,rfl,h2,by rw [List.all_eq_false];exact ⟨rows,hm,by rw [hb];simp⟩⟩⟩
  · have hj2:j=er.length:=by omega
    subst hj2;rw [hg.len,List.take_length] at ht;have hlt:decide ((er.length:Int)<(er.length:Int))=false:=by simp
    simp only [go_sem,hl,h26,h27,hlt] at hB;subst hB;refine .inr ⟨rfl,.inl ⟨_,rfl,?_,ht⟩⟩;simp only [go_sem,hl]
 rcases hQ with ⟨tm,rfl,hl,ha⟩|⟨tm,rfl,h2,ha⟩
 · simp only [go_sem,hl];rw [show (adj.all fun l=>l.all fun e=>decide (0≤toE e)&&decide (toE e<sr.length))=true from ha]
 · simp only [go_sem,h2];rw [show (adj.all fun l=>l.all fun e=>decide (0≤toE e)&&decide (toE e<sr.length))=false from ha]
end
open Go Go.Proofs.Tryz
set_option maxRecDepth 100000
def OkT (lf:Nat):Nat→Val→Prop
 |0,x=> ∃rows,IsSl x rows
 | d +1,x=> ∃rows,IsSl x rows∧rows.length<lf∧rows.length<4611686018427387904∧ ∀r∈rows,∃(k1 k2:IntKind) (a b:Int) (l1 m1 l2 m2:Nat) (y z:Val),
     r= [.int k1 a,.int k2 b,.str l1 m1,.str l2 m2,y,z]∧l1<4611686018427387904∧l2<4611686018427387904∧OkT lf d y∧OkT lf d z
theorem OkT.sl {lf d x} (h:OkT lf d x): ∃rows,IsSl x rows:=by
 cases d with
 |zero=>exact h
 |succ d=>obtain ⟨rows,h,-⟩:=h;exact ⟨rows,h⟩
@[go_sem] theorem upd6 (a b c d e f x y z w u v):upd [a,b,c,d,e,f] 0 [x,y,z,w,u,v]=some [x,y,z,w,u,v]:=rfl
section
variable (pr:Nat→Option (List Val→Hp→FRes)) (lf:Nat)
theorem len9 (l m:Nat) (H:Hp):lenP (E1 pr) 9 (.str l m) H=some (.int .i64 (l:Nat)):=by kernel_rfl
theorem c104 (hp:noPr pr) (e' d:Nat): ∀(x:Val) (left dep:Int) (H:Hp),OkT lf d x→ -1≤left→left≤300→dep=81-(d:Int)→d≤81→
  ∃H' n,EV pr lf (e'+d+1) 104 [x,.int .i64 left,.int .i64 dep] H= .ret (.int .i64 n) H'∧Ext H H'∧ -1≤n∧n≤300:=by
 induction d with
 | zero=>
   intro x left dep H hx h1 h2 h3 _;obtain ⟨rows,hx⟩:=hx.sl;unfold EV;rw [evalFn_S (E1 pr) okd lf (e'+0) 104 43 _ H f104 _ (hp 104 (by decide)) (fns_104 pr) rfl rfl];have hg:decide (dep>80)=true:=by simp;omega
   simp only [go_sem,hg];exact ⟨_,_,rfl,Ext.refl _,by omega,by omega⟩
 | succ d ih=>
   intro x left dep H hx h1 h2 h3 h4;obtain ⟨rows,hx,hrl,hrs,hrow⟩:=hx;unfold EV;rw [show e'+(d+1)+1=e'+d+1+1 from rfl,evalFn_S (E1 pr) okd lf (e'+d+1) 104 43 _ H f104 _ (hp 104 (by decide)) (fns_104 pr) rfl rfl];have hg:decide (dep>80)=false:=by simp;omega
   simp only [go_sem,hg,hx.opdV,hx.len];generalize hL:loopC _ _ _ _ _ _ _ _ _ _=L;let Q (L:CRes):Prop:=(∃tm H' n,L= .exit 0 tm H' []∧tm.length=46∧Ext H H'∧getT tm 1= .int .i64 n∧ -1≤n∧n≤300)∨(∃tm H',L= .ret tm H' []∧Ext H H'∧getT tm 6= .int .i64 (-1));have hQ:Q L:=by
    subst hL;refine loop_up _ Q (fun j tm H1=>tm.length=46∧getT tm 2= .int .i64 dep∧getT tm 11=x∧getT tm 12= .int .i64 rows.length∧getT tm 13= .int .i64 j∧Ext H H1∧ ∃n,getT tm 1= .int .i64 n∧ -1≤n∧n≤300)
     rows.length ?_ lf 0 _ _ (Nat.zero_le _) (by omega) ?_
    · rintro j tm H1 hj ⟨hl,h2,h11,h12,h13,hE,n,h1,hn1,hn2⟩;generalize hB:evalCode _ _ _ _ _ _ tm H1 []=R;by_cases hjn:j<rows.length
      · obtain ⟨r,hr1⟩: ∃r,rows[j]? =some r:=⟨rows[j],by simp [hjn]⟩;obtain ⟨k1,k2,a,b,l1,m1,l2,m2,y,z,rfl,hl1,hl2,hy,hz⟩:=hrow r (List.mem_of_getElem? hr1);obtain ⟨yr,hys⟩:=hy.sl;obtain ⟨zr,hzs⟩:=hz.sl;have hlt:decide ((j:Int)<(rows.length:Int))=true:=by simp;omega
        have hw:IntKind.i64.wrap ((j:Int)+1)=((j+1:Nat):Int):=by rw [wrap64 _ (by omega) (by omega)];rfl
        have hw1:IntKind.i64.wrap ((l1:Int)+(l2:Int))=((l1+l2:Nat):Int):=by rw [wrap64 _ (by omega) (by omega)];rfl
        have h50:((50:Int)=0)=False:=by simp
        obtain ⟨q,hq,hq1,hq2⟩: ∃q:Int,Int.tdiv ((l1+l2:Nat):Int) 50=q∧0≤q∧q≤((l1+l2:Nat):Int):=by refine ⟨_,rfl,?_⟩;rw [Int.tdiv_eq_ediv_of_nonneg (by omega)];omega
        have hw2:IntKind.i64.wrap q=q:=wrap64 _ (by omega) (by omega);have hw3:IntKind.i64.wrap (1+q)=1+q:=wrap64 _ (by omega) (by omega);have hw4:IntKind.i64.wrap (n-(1+q))=n-(1+q):=wrap64 _ (by omega) (by omega);have hw5:IntKind.i64.wrap (dep+1)=dep+1:=wrap64 _ (by omega) (by omega)
        cases c1:decide (n-(1+q)<0) with
        | true=>
          simp only [go_sem,hl,h1,h2,h11,h12,h13,hx.opdV,hys.okCell,hzs.okCell,hlt,hx.ix (k:=6) hr1 rfl,len9,hw1,h50,hq,hw2,hw3,hw4,c1] at hB;subst hB;refine .inr ⟨rfl,.inr ⟨_,_,rfl,hE,by simp only [go_sem,hl]⟩⟩
        | false=>
          have c2: ¬(n-(1+q)<0):=by simpa using c1
          obtain ⟨H2,n2,e2,x2,b2,b3⟩:=ih y (n-(1+q)) (dep+1) H1 hy (by omega) (by omega) (by omega) (by omega);have x3:=hE.trans (Ext.gc x2 (.int .i64 n2));generalize hG:gc H1.n (.int .i64 n2) H2=H3 at*;obtain ⟨H4,n3,e3,x4,b4,b5⟩:=ih z n2 (dep+1) H3 hz (by omega) (by omega) (by omega) (by omega);have x5:=x3.trans (Ext.gc x4 (.int .i64 n3));generalize hG2:gc H3.n (.int .i64 n3) H4=H5 at*
          cases c3:decide (n3<0) with
          | true=>
            simp only [go_sem,hl,h1,h2,h11,h12,h13,hx.opdV,hys.opdV,hzs.opdV,hys.noLoc,hzs.noLoc,hys.okCell,hzs.okCell,hlt,hx.ix (k:=6) hr1 rfl,len9,hw1,h50,hq,hw2,hw3,hw4,hw5,c1,e2,hG,e3,hG2,c3] at hB;subst hB;refine .inr ⟨rfl,.inr ⟨_,_,rfl,x5,by simp only [go_sem,hl]⟩⟩
          | false=>
            simp only [go_sem,hl,h1,h2,h11,h12,h13,hx.opdV,hys.opdV,hzs.opdV,hys.noLoc,hzs.noLoc,hys.okCell,hzs.okCell,hlt,hw,hx.ix (k:=6) hr1 rfl,len9,hw1,h50,hq,hw2,hw3,hw4,hw5,c1,e2,hG,e3,hG2,c3] at hB;subst hB;refine .inl ⟨_,_,rfl,hjn,?_⟩;simp only [go_sem,hl,h2,h11,h12];exact ⟨x5,n3,rfl,b4,b5⟩
      · have hj2:j=rows.length:=by omega
        subst hj2;have hlt:decide ((rows.length:Int)<(rows.length:Int))=false:=by simp
        simp only [go_sem,hl,h12,h13,hlt] at hB;subst hB;refine .inr ⟨rfl,.inl ⟨_,_,n,rfl,?_,hE,?_,hn1,hn2⟩⟩
        · simp only [go_sem,hl]
        · simp only [go_sem,hl,h1]
    · simp only [go_sem];exact ⟨rfl,Ext.refl _,left,rfl,h1,h2⟩
   rcases hQ with ⟨tm,H',n,rfl,hl,hE,h1,hn1,hn2⟩|⟨tm,H',rfl,hE,h6⟩
   · simp only [go_sem,hl,h1];exact ⟨_,_,rfl,hE,hn1,hn2⟩
   · simp only [go_sem,h6];exact ⟨_,_,rfl,hE,by omega,by omega⟩
theorem c64 (hp:noPr pr) (e':Nat) (x:Val) (H:Hp) (hx:OkT lf 81 x): ∃H' b,EV pr lf (e'+83) 64 [.int .i64 300,x] H= .ret (.bool b) H'∧Ext H H':=by obtain ⟨rows,hs⟩:=hx.sl;unfold EV;rw [evalFn_S (E1 pr) okd lf (e'+82) 64 7 _ H f64 _ (hp 64 (by decide)) (fns_64 pr) rfl rfl];obtain ⟨H1,n,h1,e1,-,-⟩:=c104 pr lf hp e' 81 x 300 0 H hx (by omega) (by omega) (by omega) (by omega);simp only [Nat.add_assoc,Nat.reduceAdd] at h1;simp only [go_sem,hs.opdV,hs.noLoc,h1];exact ⟨_,_,rfl,Ext.gc e1 _⟩
theorem c40 (hp:noPr pr) (e':Nat) (x:Val) (H:Hp) (hx:OkT lf 81 x): ∃H' b,EV pr lf (e'+84) 40 [x] H= .ret (.bool b) H'∧Ext H H':=by obtain ⟨rows,hs⟩:=hx.sl;unfold EV;rw [evalFn_S (E1 pr) okd lf (e'+83) 40 4 _ H f40 _ (hp 40 (by decide)) (fns_40 pr) rfl rfl];obtain ⟨H1,n,h1,e1⟩:=c64 pr lf hp e' x H hx;simp only [go_sem,hs.opdV,hs.noLoc,h1];exact ⟨_,_,rfl,Ext.gc e1 _⟩
end
open Go Go.Proofs.Tryz
set_option maxRecDepth 100000
def OkS (lf:Nat) (r:List Val):Prop:= ∃(x y:Val) (rows:List (List Val)),r= [x,y]∧OkT lf 81 x∧IsSl y rows∧rows.length<lf∧rows.length<4611686018427387904∧ ∀r∈rows,∃z:Val,r= [z]∧OkT lf 81 z
section
variable (pr:Nat→Option (List Val→Hp→FRes)) (lf:Nat)
theorem c25 (hp:noPr pr) (e':Nat) (x y:Val) (H:Hp) (hr:OkS lf [x,y]): ∃H' b,EV pr lf (e'+85) 25 [.agg [x,y]] H= .ret (.bool b) H'∧Ext H H':=by
 obtain ⟨x,y,rows,h,hx,hy,hyl,hys,hrow⟩:=hr;obtain ⟨rfl,rfl⟩:_=x∧_=y:=by simpa using h
 obtain ⟨xr,hxs⟩:=hx.sl;unfold EV;rw [evalFn_S (E1 pr) okd lf (e'+84) 25 26 _ H f25 _ (hp 25 (by decide)) (fns_25 pr) rfl rfl];simp only [go_sem,hxs.opdV,hxs.okCell,hy.okCell,hy.opdV,hy.len];generalize hL:loopC _ _ _ _ _ _ _ _ _ _=L;let Q (L:CRes):Prop:=(∃tm H',L= .exit 0 tm H' []∧tm.length=27∧Ext H H'∧getT tm 1= .lv 0 [x,y]∧getT tm 3= .int .i64 rows.length)∨(∃tm H',L= .ret tm H' []∧Ext H H'∧getT tm 2= .bool false);have hQ:Q L:=by
  subst hL;refine loop_up _ Q (fun j tm H1=>tm.length=27∧getT tm 1= .lv 0 [x,y]∧getT tm 3= .int .i64 rows.length∧getT tm 10=y∧getT tm 11= .int .i64 rows.length∧getT tm 12= .int .i64 j∧Ext H H1)
   rows.length ?_ lf 0 _ _ (Nat.zero_le _) (by omega) (by simp [go_sem,Ext.refl])
  rintro j tm H1 hj ⟨hl,h1,h3,h10,h11,h12,hE⟩;generalize hB:evalCode _ _ _ _ _ _ tm H1 []=R;by_cases hjn:j<rows.length
  · obtain ⟨r,hr1⟩: ∃r,rows[j]? =some r:=⟨rows[j],by simp [hjn]⟩;obtain ⟨z,rfl,hz⟩:=hrow r (List.mem_of_getElem? hr1);obtain ⟨zr,hzs⟩:=hz.sl;have hlt:decide ((j:Int)<(rows.length:Int))=true:=by simp;omega
    have hw:IntKind.i64.wrap ((j:Int)+1)=((j+1:Nat):Int):=by rw [wrap64 _ (by omega) (by omega)];rfl
    obtain ⟨H2,b,h2,e2⟩:=c40 pr lf hp e' z H1 hz;have e3:=hE.trans (Ext.gc e2 (.bool b));generalize hG:gc H1.n (.bool b) H2=H3 at*
    cases b with
    | true=>
      simp only [go_sem,hl,h1,h3,h10,h11,h12,hy.opdV,hzs.opdV,hzs.noLoc,hlt,hw,hy.ix (k:=1) hr1 rfl,h2,hG] at hB;subst hB;refine .inl ⟨_,_,rfl,hjn,?_⟩;simp only [go_sem,hl,h1,h3,h10,h11,e3]
    | false=>
      simp only [go_sem,hl,h1,h3,h10,h11,h12,hy.opdV,hzs.opdV,hzs.noLoc,hlt,hw,hy.ix (k:=1) hr1 rfl,h2,hG] at hB;subst hB;exact .inr ⟨rfl,.inr ⟨_,_,rfl,e3,by simp only [go_sem,hl]⟩⟩
  · have hj2:j=rows.length:=by omega
    subst hj2;have hlt:decide ((rows.length:Int)<(rows.length:Int))=false:=by simp
    simp only [go_sem,hl,h11,h12,hlt] at hB;subst hB;refine .inr ⟨rfl,.inl ⟨_,_,rfl,?_,hE,?_,?_⟩⟩
    · simp only [go_sem,hl]
    · simp only [go_sem,hl,h1]
    · simp only [go_sem,hl,h3]
 rcases hQ with ⟨tm,H',rfl,hl,hE,h1,h3⟩|⟨tm,H',rfl,hE,h2⟩
 · obtain ⟨H2,b,h2,e2⟩:=c40 pr lf hp e' x H' hx;have e3:=hE.trans (Ext.gc e2 (.bool b));generalize hG:gc H'.n (.bool b) H2=H3 at*
   cases c1:decide ((rows.length:Int)≤10) with
   | true=>
     simp only [go_sem,hl,h1,h3,c1,hxs.opdV,hxs.noLoc,h2,hG];exact ⟨_,_,rfl,e3⟩
   | false=>
     simp only [go_sem,hl,h1,h3,c1];exact ⟨_,_,rfl,hE⟩
 · simp only [go_sem,h2];exact ⟨_,_,rfl,hE⟩
end
open Go Go.Proofs.Tryz
set_option maxRecDepth 100000
def lenV:Val→Nat
 | .sl rows _=>rows.length
 |_=>0
theorem IsSl.lenV {x rows} (h:IsSl x rows):lenV x=rows.length:=by rcases h with ⟨rfl,rfl⟩|⟨c,rfl⟩<;>rfl
def atN:List Val→Nat
 | [_,x,_,_]=>Go.PV.lenV x/10
 |_=>0
def cntL (l:List (List Val)):Nat:=l.length+(l.map atN).sum
def cntA (adj:List (List (List Val))):Nat:=(adj.map cntL).sum
theorem cntA_take (adj:List (List (List Val))) (j:Nat):cntA (adj.take j)≤cntA adj:=by
 induction adj generalizing j with
 |nil=>simp [cntA]
 | cons a t ih=>cases j with
   |zero=>simp [cntA]
   |succ j=>have:=ih j;simp only [cntA,List.take_succ_cons,List.map_cons,List.sum_cons] at this⊢;omega
theorem sum_take (l:List (List Val)) (j:Nat):((l.take j).map atN).sum≤(l.map atN).sum:=by
 induction l generalizing j with
 |nil=>simp
 | cons a t ih=>cases j with
   |zero=>simp
   |succ j=>have:=ih j;simp only [List.take_succ_cons,List.map_cons,List.sum_cons] at this⊢;omega
theorem cntA_snoc (adj:List (List (List Val))) (j:Nat) (l) (h:adj[j]? =some l):cntA (adj.take (j+1))=cntA (adj.take j)+cntL l:=by rw [List.take_add_one,h];simp [cntA]
theorem sum_snoc (l:List (List Val)) (j:Nat) (r) (h:l[j]? =some r):((l.take (j+1)).map atN).sum=((l.take j).map atN).sum+atN r:=by rw [List.take_add_one,h];simp
section
variable (pr:Nat→Option (List Val→Hp→FRes)) (lf:Nat)
theorem c5 (hp:noPr pr) (e':Nat) (ss es:Val) (sr er:List (List Val)) (adj:List (List (List Val))) (H:Hp)
  (hs:IsSl ss sr) (he:IsSl es er) (hg:OkG er adj) (hsl:sr.length<4611686018427387904)
  (hn:er.length<lf) (hm:sr.length<lf) (hrow: ∀l∈adj,l.length<lf) (hst: ∀r∈sr,∃x y,r= [x,y]∧OkS lf [x,y]):
  ∃H' b,EV pr lf (e'+86) 5 [.agg [ss,es],.int .i64 1500] H= .ret (.bool b) H'∧Ext H H'∧(b=true→sr.length+er.length+cntA adj≤1000000000000→sr.length+er.length+cntA adj≤1500):=by
 generalize hT:sr.length+er.length+cntA adj=T;have hal:er.length=adj.length:=hg.len;have hNn: ∀j,T≤1000000000000→sr.length+er.length+cntA (adj.take j)≤T:=fun j _=>by have:=cntA_take adj j;omega
 unfold EV;rw [evalFn_S (E1 pr) okd lf (e'+85) 5 62 _ H f5 _ (hp 5 (by decide)) (fns_5 pr) rfl rfl];have hel:=hg.small;simp only [go_sem,hs.opdV,hs.len,hs.okCell,he.okCell,he.opdV,he.len];generalize hL:loopC _ _ _ _ _ _ _ _ _ _=L;let Q (L:CRes):Prop:= ∃tm,∃N:Int,L= .exit 0 tm H []∧tm.length=64∧getT tm 1= .int .i64 1500∧getT tm 2= .lv 0 [ss,es]∧getT tm 5= .int .i64 N∧(T≤1000000000000→N=(T:Int));have hQ:Q L:=by
  subst hL;refine loop_up _ Q
   (fun j tm H1=>tm.length=64∧getT tm 1= .int .i64 1500∧getT tm 2= .lv 0 [ss,es]∧(∃N:Int,getT tm 5= .int .i64 N∧(T≤1000000000000→N=((sr.length+er.length+cntA (adj.take j):Nat):Int)))∧getT tm 20=es∧getT tm 21= .int .i64 er.length∧getT tm 22= .int .i64 j∧H1=H)
   er.length ?_ lf 0 _ _ (Nat.zero_le _) (by omega) ?_
  rotate_left
  · refine ⟨by simp [go_sem],by simp [go_sem],by simp [go_sem],⟨IntKind.i64.wrap ((sr.length:Int)+(er.length:Int)),by simp [go_sem],fun hTT=> ?_⟩,by simp [go_sem],by simp [go_sem],by simp [go_sem],rfl⟩;rw [wrap64 _ (by omega) (by omega)];simp [cntA]
  rintro j tm H1 hj ⟨hl,h1,h2,⟨N,h5,hNv⟩,h20,h21,h22,rfl⟩;generalize hB:evalCode _ _ _ _ _ _ tm H1 []=R;by_cases hjn:j<er.length
  · obtain ⟨r,hr0⟩: ∃r,er[j]? =some r:=⟨er[j],by simp [hjn]⟩;obtain ⟨x,rows,rfl,hadj,hx,hxs,hee⟩:=hg.row j r hr0;have hmem:rows∈adj:=List.mem_of_getElem? hadj;have hsn:=cntA_snoc adj j rows hadj;have hsj:=hNn (j+1);have hlt:decide ((j:Int)<(er.length:Int))=true:=by simp;omega
    have hw:IntKind.i64.wrap ((j:Int)+1)=((j+1:Nat):Int):=by rw [wrap64 _ (by omega) (by omega)];rfl
    simp only [go_sem,hl,h1,h2,h5,h20,h21,h22,he.opdV,hx.opdV,hx.len,hlt,he.ix (k:=1) hr0 rfl] at hB;revert hB;generalize hL:loopC _ _ _ _ _ _ _ _ _ _=L;intro hB;let Q2 (L:CRes):Prop:= ∃tm,∃N:Int,L= .exit 2 tm H1 []∧tm.length=64∧getT tm 1= .int .i64 1500∧getT tm 2= .lv 0 [ss,es]∧getT tm 20=es∧getT tm 21= .int .i64 er.length∧getT tm 22= .int .i64 j∧
     getT tm 5= .int .i64 N∧(T≤1000000000000→N=((sr.length+er.length+cntA (adj.take (j+1)):Nat):Int))
    have hQ2:Q2 L:=by
     subst hL;refine loop_up _ Q2
      (fun i tm H2=>tm.length=64∧getT tm 1= .int .i64 1500∧getT tm 2= .lv 0 [ss,es]∧getT tm 20=es∧getT tm 21= .int .i64 er.length∧getT tm 22= .int .i64 j∧getT tm 30=x∧getT tm 31= .int .i64 rows.length∧getT tm 32= .int .i64 i∧
       (∃N:Int,getT tm 5= .int .i64 N∧(T≤1000000000000→N=((sr.length+er.length+cntA (adj.take j)+rows.length+((rows.take i).map atN).sum:Nat):Int)))∧H2=H1)
      rows.length ?_ lf 0 _ _ (Nat.zero_le _) (hrow rows hmem) ?_
     rotate_left
     · refine ⟨by simp [go_sem,hl],by simp [go_sem,hl,h1],by simp [go_sem,hl,h2],by simp [go_sem,hl,h20],by simp [go_sem,hl,h21],by simp [go_sem,hl,h22],by simp [go_sem,hl],by simp [go_sem,hl],by simp [go_sem,hl],⟨IntKind.i64.wrap (N+(rows.length:Int)),by simp [go_sem,hl],fun hTT=> ?_⟩,rfl⟩;have:=hNv hTT;have:=hsj hTT;unfold cntL at hsn;rw [wrap64 _ (by omega) (by omega)];simp;omega
     rintro i tm H2 hi ⟨hl,h1,h2,h20,h21,h22,h30,h31,h32,⟨N,h5,hNi⟩,rfl⟩;generalize hB:evalCode _ _ _ _ _ _ tm H2 []=R;by_cases hin:i<rows.length
     · obtain ⟨r,hr1⟩: ∃r,rows[i]? =some r:=⟨rows[i],by simp [hin]⟩;obtain ⟨a1,b1,c1,n1,y,bl,rfl,rfl,hy,hyl⟩:=hee r (List.mem_of_getElem? hr1);have hlt:decide ((i:Int)<(rows.length:Int))=true:=by simp;omega
       have hw:IntKind.i64.wrap ((i:Int)+1)=((i+1:Nat):Int):=by rw [wrap64 _ (by omega) (by omega)];rfl
       have h10:((10:Int)=0)=False:=by simp
       simp only [go_sem,hl,h1,h2,h5,h20,h21,h22,h30,h31,h32,hx.opdV,hy.opdV,hy.okCell,hy.len,hlt,hw,h10,hx.ix (k:=4) hr1 rfl] at hB;subst hB;refine .inl ⟨_,_,rfl,hin,?_⟩;simp only [go_sem,hl,h1,h2,h20,h21,h22,h30,h31,hw];refine ⟨_,rfl,fun hTT=> ?_⟩;have e1:=hNi hTT;have e2:=hsj hTT;have e3:=sum_snoc rows i _ hr1;have e4:=sum_take rows (i+1);unfold cntL at hsn;have e5:atN [.int .i64 a1,b1,.int .i64 c1,.int .i64 n1]=bl.length/10:=by simp [atN,hy.lenV]
       have e6:((bl.length:Int)).tdiv 10=((bl.length/10:Nat):Int):=by rw [Int.tdiv_eq_ediv_of_nonneg (by omega)];omega
       rw [e6,wrap64 (((bl.length/10:Nat):Int)) (by omega) (by omega),wrap64 _ (by omega) (by omega)];omega
     · have hi2:i=rows.length:=by omega
       subst hi2;have hlt:decide ((rows.length:Int)<(rows.length:Int))=false:=by simp
       simp only [go_sem,hl,h31,h32,hlt] at hB;subst hB;refine .inr ⟨rfl,_,N,rfl,?_⟩;simp only [go_sem,hl,h1,h2,h5,h20,h21,h22];intro hTT;have e1:=hNi hTT;rw [List.take_length] at e1;unfold cntL at hsn;omega
    obtain ⟨tm,N,rfl,hl,h1,h2,h20,h21,h22,h5,hNe⟩:=hQ2;simp only [go_sem,hl,h22,hw] at hB;subst hB;refine .inl ⟨_,_,rfl,hjn,?_⟩;simp only [go_sem,hl,h1,h2,h5,h20,h21];exact ⟨_,rfl,hNe⟩
  · have hj2:j=er.length:=by omega
    subst hj2;have hlt:decide ((er.length:Int)<(er.length:Int))=false:=by simp
    simp only [go_sem,hl,h21,h22,hlt] at hB;subst hB;refine .inr ⟨rfl,_,N,rfl,?_⟩;simp only [go_sem,hl,h1,h2,h5];intro hTT;have e1:=hNv hTT;rw [hal,List.take_length] at e1;omega
 obtain ⟨tm,N,rfl,hl,h1,h2,h5,hNT⟩:=hQ;simp only [go_sem,hl,h2,hs.opdV,hs.len];generalize hL:loopC _ _ _ _ _ _ _ _ _ _=L;let Q (L:CRes):Prop:=(∃tm H',L= .exit 4 tm H' []∧tm.length=64∧Ext H H'∧getT tm 1= .int .i64 1500∧getT tm 5= .int .i64 N)∨(∃tm H',L= .ret tm H' []∧Ext H H'∧getT tm 4= .bool false);have hQ:Q L:=by
  subst hL;refine loop_up _ Q
   (fun j tm H1=>tm.length=64∧getT tm 1= .int .i64 1500∧getT tm 5= .int .i64 N∧getT tm 46=ss∧getT tm 47= .int .i64 sr.length∧getT tm 48= .int .i64 j∧Ext H H1)
   sr.length ?_ lf 0 _ _ (Nat.zero_le _) (by omega) (by simp [go_sem,hl,h1,h5,Ext.refl])
  rintro j tm H1 hj ⟨hl,h1,h5,h46,h47,h48,hE⟩;generalize hB:evalCode _ _ _ _ _ _ tm H1 []=R;by_cases hjn:j<sr.length
  · obtain ⟨r,hr1⟩: ∃r,sr[j]? =some r:=⟨sr[j],by simp [hjn]⟩;obtain ⟨x,y,rfl,hS⟩:=hst r (List.mem_of_getElem? hr1);have hS2:=hS;obtain ⟨x',y',rows,hxy,hx,hy,-⟩:=hS2;obtain ⟨rfl,rfl⟩:x=x'∧y=y':=by simpa using hxy
    obtain ⟨xr,hxs⟩:=hx.sl;have hlt:decide ((j:Int)<(sr.length:Int))=true:=by simp;omega
    have hw:IntKind.i64.wrap ((j:Int)+1)=((j+1:Nat):Int):=by rw [wrap64 _ (by omega) (by omega)];rfl
    cases c1:decide (N>1500) with
    | true=>
      simp only [go_sem,hl,h1,h5,h46,h47,h48,hs.opdV,hxs.okCell,hy.okCell,hlt,hw,hs.ix (k:=2) hr1 rfl,c1] at hB;subst hB;exact .inr ⟨rfl,.inr ⟨_,_,rfl,hE,by simp only [go_sem,hl]⟩⟩
    | false=>
      obtain ⟨H2,b,h2,e2⟩:=c25 pr lf hp e' x y H1 hS;have e3:=hE.trans (Ext.gc e2 (.bool b));generalize hG:gc H1.n (.bool b) H2=H3 at*
      cases b with
      | true=>
        simp only [go_sem,hl,h1,h5,h46,h47,h48,hs.opdV,hxs.okCell,hy.okCell,hlt,hw,hs.ix (k:=2) hr1 rfl,c1,h2,hG] at hB;subst hB;refine .inl ⟨_,_,rfl,hjn,?_⟩;simp only [go_sem,hl,h1,h5,h46,h47,e3]
      | false=>
        simp only [go_sem,hl,h1,h5,h46,h47,h48,hs.opdV,hxs.okCell,hy.okCell,hlt,hw,hs.ix (k:=2) hr1 rfl,c1,h2,hG] at hB;subst hB;exact .inr ⟨rfl,.inr ⟨_,_,rfl,e3,by simp only [go_sem,hl]⟩⟩
  · have hj2:j=sr.length:=by omega
    subst hj2;have hlt:decide ((sr.length:Int)<(sr.length:Int))=false:=by simp
    simp only [go_sem,hl,h47,h48,hlt] at hB;subst hB;refine .inr ⟨rfl,.inl ⟨_,_,rfl,?_,hE,?_,?_⟩⟩
    · simp only [go_sem,hl]
    · simp only [go_sem,hl,h1]
    · simp only [go_sem,hl,h5]
 rcases hQ with ⟨tm,H',rfl,hl,hE,h1,h5⟩|⟨tm,H',rfl,hE,h4⟩
 · simp only [go_sem,hl,h1,h5];exact ⟨_,_,rfl,hE,fun hb hTT=>by have:=hNT hTT;simp at hb;omega⟩
 · simp only [go_sem,h4];exact ⟨_,_,rfl,hE,fun hb=>by cases hb⟩
end
open Go Go.Proofs.Tryz
set_option maxRecDepth 100000
section
variable (pr:Nat→Option (List Val→Hp→FRes)) (lf:Nat)
theorem c62 (hp:noPr pr) (k:Nat) (r a m:Val) (to n:Int) (id gen g d ro:Nat) (H:Hp) (hr:okCell r=true) (ha:okCell a=true) (hm:okCell m=true)
  (h:H.get id=some (.cells g d ro [.int .i64 n])) (hd:d≤gen):
   EV pr lf (k+1) 62 [.agg [r,a,m,.int .i64 to],.ptr id gen 0 1] H= .ret (.bool (to==n)) H:=by
 unfold EV;rw [evalFn_S (E1 pr) okd lf k 62 6 _ H f62 _ (hp 62 (by decide)) (fns_62 pr) rfl rfl];simp only [go_sem,h,hd,hr,ha,hm]
def KV (H:Hp) (v:Val) (q:List Int):Prop:=(v= .nilsl∧q= [])∨ ∃id gen g d ro cs,v= .ref id gen 0 1 q.length false∧H.get id=some (.cells g d ro cs)∧d≤gen∧q.length≤cs.length∧cs.take q.length=q.map iC
theorem KV.len {H v q} (h:KV H v q):lenS v=some (.int .i64 q.length):=by rcases h with ⟨rfl,rfl⟩|⟨id,gen,g,d,ro,cs,rfl,-⟩<;>rfl
theorem KV.opdV {H v q} (h:KV H v q) (t:Nat):opdV t v=v:=by rcases h with ⟨rfl,rfl⟩|⟨id,gen,g,d,ro,cs,rfl,-⟩<;>rfl
theorem KV.at {H v q} (h:KV H v q) {j:Nat} {a:Int} (hj:q[j]? =some a): ∃p,ixA 1 v (.int .i64 (j:Nat))=some p∧(∀t,Go.PV.opdV t p=p)∧ ∀tm,loadC 1 false (rowAtP tm H p)=some (.int .i64 a):=by
 have hl:j<q.length:=(List.getElem?_eq_some_iff.1 hj).1;rcases h with ⟨rfl,rfl⟩|⟨id,gen,g,d,ro,cs,rfl,hg,hd,hlen,hc⟩
 · cases hj
 · refine ⟨.ptr id gen (0+j*1) (0+j*1+1),?_,fun _=>rfl,fun tm=> ?_⟩
   · rw [ixA_ref,if_pos hl]
   · have h0:cs[j]? =some (iC a):=by have:=congrArg (fun l=>l[j]?) hc;simp only [List.getElem?_map,hj,Option.map_some] at this;rw [List.getElem?_take,if_pos hl] at this;exact this
     simp only [rowAtP_ptr,hg,rowH_cells,if_pos hd,loadC_one,Nat.zero_add,Nat.mul_one,Nat.le_refl,if_true,h0,iC]
theorem c99 (hp:noPr pr) (k:Nat) (v:Val) (q:List Int) (b:Int) (H:Hp) (h:KV H v q) (hn:q.length<lf) (hs:q.length<1000000000):
  ∃n:Int,EV pr lf (k+1) 99 [v,.int .i64 b] H= .ret (.int .i64 n) H∧((b∉q∧n= -1)∨ ∃j:Nat,n=j∧q[j]? =some b∧b∉q.take j):=by
 unfold EV;rw [evalFn_S (E1 pr) okd lf k 99 17 _ H f99 _ (hp 99 (by decide)) (fns_99 pr) rfl rfl];simp only [go_sem,h.opdV,h.len];generalize hL:loopC _ _ _ _ _ _ _ _ _ _=L;let Q (L:CRes):Prop:=(∃tm,L= .exit 0 tm H []∧tm.length=19∧b∉q)∨(∃tm,∃j:Nat,L= .ret tm H []∧getT tm 4= .int .i64 (j:Nat)∧q[j]? =some b∧b∉q.take j);have hQ:Q L:=by
  subst hL;refine loop_up _ Q (fun j tm H1=>tm.length=19∧getT tm 0=v∧getT tm 1= .int .i64 b∧getT tm 7= .int .i64 q.length∧getT tm 8= .int .i64 j∧H1=H∧b∉q.take j)
   q.length ?_ lf 0 _ _ (Nat.zero_le _) (by omega) (by simp [go_sem])
  rintro j tm H1 hj ⟨hl,h0,h1,h7,h8,rfl,ht⟩;generalize hB:evalCode _ _ _ _ _ _ tm H1 []=R;by_cases hjn:j<q.length
  · obtain ⟨a,hr0⟩: ∃a,q[j]? =some a:=⟨q[j],by simp [hjn]⟩;obtain ⟨p,p1,p2,p3⟩:=h.at hr0;have hlt:decide ((j:Int)<(q.length:Int))=true:=by simp;omega
    have hw:IntKind.i64.wrap ((j:Int)+1)=((j+1:Nat):Int):=by rw [wrap64 _ (by omega) (by omega)];rfl
    cases hc:(b==a) with
    | true=>
      have hba:b=a:=by simpa using hc
      simp only [go_sem,hl,h0,h1,h7,h8,h.opdV,hlt,p1,p2,p3,hc,hw] at hB;subst hB;exact .inr ⟨rfl,.inr ⟨_,j,rfl,by simp only [go_sem,hl],by rw [hr0,hba],ht⟩⟩
    | false=>
      have hba:b≠a:=by simpa using hc
      simp only [go_sem,hl,h0,h1,h7,h8,h.opdV,hlt,p1,p2,p3,hc,hw] at hB;subst hB;refine .inl ⟨_,_,rfl,hjn,?_⟩;simp only [go_sem,hl,h0,h1,h7];rw [List.take_add_one,hr0];simp [ht,hba]
  · have hj2:j=q.length:=by omega
    subst hj2;have hlt:decide ((q.length:Int)<(q.length:Int))=false:=by simp
    simp only [go_sem,hl,h7,h8,hlt] at hB;subst hB;rw [List.take_length] at ht;exact .inr ⟨rfl,.inl ⟨_,rfl,by simp only [go_sem,hl],ht⟩⟩
 rcases hQ with ⟨tm,rfl,hl,hb⟩|⟨tm,j,rfl,h4,hb,ht⟩
 · simp only [go_sem,hl];exact ⟨_,rfl,.inl ⟨hb,rfl⟩⟩
 · simp only [go_sem,h4];exact ⟨_,rfl,.inr ⟨j,rfl,hb,ht⟩⟩
end
open Go Go.Proofs.Tryz
set_option maxRecDepth 100000
section
variable (pr:Nat→Option (List Val→Hp→FRes)) (lf:Nat)
theorem c153 (hp:pr 153=none) (k n:Nat) (H:Hp) (hn:n≤400):EV pr lf (k+1) 153 [.int .u64 1,.int .u64 n] H= .ret (.tup [.int .u64 0,.int .u64 n]) H:=by unfold EV;rw [evalFn_S (E1 pr) okd lf k 153 49 _ H f153 _ hp (fns_153 pr) rfl rfl];have h1:=fun t=>and_n (E1 pr) t n hn;have h2:=fun t=>shr_n (E1 pr) t n hn;have h3:IntKind.u64.wrap (n:Int)=n:=wrapU _ (by omega) (by omega);have h4:IntKind.u64.wrap 0=0:=rfl;simp only [go_sem,h1,h2,h3,h4,Int.zero_mul,Int.one_mul,Int.mul_zero,Int.add_zero,and_1,and_0,shr_1,shr_0]
theorem c98 (hp:pr 153=none) (hp2:pr 98=none) (k n:Nat) (H:Hp) (hn:n≤400):EV pr lf (k+2) 98 [.int .u64 1,.int .u64 n] H= .ret (.tup [.int .u64 0,.int .u64 n]) H:=by unfold EV;rw [evalFn_S (E1 pr) okd lf (k+1) 98 28 _ H f98 _ hp2 (fns_98 pr) rfl rfl];have h:=c153 pr lf hp k n H hn;unfold EV at h;have hr:=fun tm=>retC_pub (E1 pr) 153 H.n tm _ H _ _ rfl (pub_int2 .u64 .u64 0 n H);simp only [go_sem,h,hr,gc_self]
end
open Go Go.Proofs.Tryz
set_option maxRecDepth 100000
section
variable (pr:Nat→Option (List Val→Hp→FRes)) (lf:Nat)
theorem copy28 (d s H):copyP (E1 pr) 28 d s H=match lenOfV d,elemsOf 1 H s with
  | some dl,some (c,sn)=>
    let n:=if Nat.ble sn dl then sn else dl
    if n=0 then some (.int .i64 0,H) else
    match d with
    | .ref id gen off k' _ _=>match H.get id with
      | some (.cells g _ ro cs)=>
        if gen=g∧1=k'∧ro≤off∧c.all okCell=true then
         match upd cs off (c.take (n*1)) with
         |some c=>fL c fun c=>fN n fun n=>fH (H.set id (.cells g gen ro c)) fun H=>some (.int .i64 (.ofNat n),H)
         |none=>none
        else none
      |_=>none
    |_=>none
  |_,_=>none:=by
 unfold copyP;have h2:sizeT (E1 pr) 3=some 1:=by kernel_rfl
 simp only [und28,h2];rfl
theorem copyA (id n:Nat) (v:Val) (H:Hp) (hn:1≤n) (z:Val) (h:H.get id=some (.cells 0 0 0 (List.replicate n z))) (hv:okCell v=true):
  copyP (E1 pr) 28 (.ref id 0 0 1 n false) (.sl [[v]] true) H=some (.int .i64 1,H.set id (.cells 0 0 0 (List.replicate 1 v++List.replicate (n-1) z))):=by
 rw [copy28];have h1:elemsOf 1 H (.sl [[v]] true)=some ([v],1):=rfl;have h2:Nat.ble 1 n=true:=Nat.ble_eq_true_of_le hn;have h3:upd (List.replicate n z) 0 [v]=some (List.replicate 1 v++List.replicate (n-1) z):=by obtain ⟨m,rfl⟩: ∃m,n=m+1:=⟨n-1,by omega⟩;simp [upd,List.replicate_succ]
 simp only [lenOfV,h1,h2,h,if_true];simp only [Nat.one_ne_zero,if_false,List.all_cons,List.all_nil,hv,Bool.and_true,Nat.le_refl,and_self,if_true,Nat.mul_one,List.take_succ_cons,List.take_zero,h3,fL_eq,fN_eq,fH_eq];rfl
theorem copyB (id n c:Nat) (v z:Val) (H:Hp) (hc:1≤c) (hn:c<n) (h:H.get id=some (.cells 0 0 0 (List.replicate c v++List.replicate (n-c) z))) (hv:okCell v=true):
  copyP (E1 pr) 28 (.ref id 0 (c*1) 1 (n-c) false) (.ref id 0 0 1 c false) H=
   some (.int .i64 (min c (n-c):Nat),H.set id (.cells 0 0 0 (List.replicate (c+min c (n-c)) v++List.replicate (n-(c+min c (n-c))) z))):=by
 rw [copy28,Nat.mul_one];have h1:elemsOf 1 H (.ref id 0 0 1 c false)=some (List.replicate c v,c):=by simp [elemsOf,h,sub]
 have hm:(if Nat.ble c (n-c) then c else n-c)=min c (n-c):=by
  cases hb:Nat.ble c (n-c) with
  |true=>have:=Nat.le_of_ble_eq_true hb;simp;omega
  | false => have: ¬c≤n-c:=fun h=>by rw [Nat.ble_eq_true_of_le h] at hb;cases hb
             simp;omega
 have h0: ¬min c (n-c)=0:=by omega
 have h3:upd (List.replicate c v++List.replicate (n-c) z) c ((List.replicate c v).take (min c (n-c)*1))=some (List.replicate (c+min c (n-c)) v++List.replicate (n-(c+min c (n-c))) z):=by
  have e1:(List.replicate c v).take (min c (n-c)*1)=List.replicate (min c (n-c)) v:=by rw [List.take_replicate];congr 1;omega
  rw [e1];unfold upd;rw [if_pos (by simp;omega)];congr 1;rw [List.take_left' (by simp),List.drop_append,List.drop_eq_nil_of_le (by simp),List.nil_append,List.drop_replicate,List.length_replicate,List.length_replicate,←List.append_assoc,List.replicate_append_replicate];congr 2;omega
 have h4:(List.replicate c v).all okCell=true:=by simp [hv]
 simp only [lenOfV,h1,hm,h0,h,h3,h4,if_false,Nat.zero_le,and_self,if_true,fL_eq,fN_eq,fH_eq];rfl
theorem cv3 (a:Int) (H):convertP (E1 pr) 3 179 (.int .i64 a) H=some (.int .u64 (IntKind.u64.wrap a)):=by
 have h1:und (E1 pr) 3=some (.int .i64):=by kernel_rfl
 have h2:und (E1 pr) 179=some (.int .u64):=by kernel_rfl
 unfold convertP;simp only [h1,h2,fI_eq]
theorem cv179 (a:Int) (H):convertP (E1 pr) 179 3 (.int .u64 a) H=some (.int .i64 (IntKind.i64.wrap a)):=by
 have h1:und (E1 pr) 3=some (.int .i64):=by kernel_rfl
 have h2:und (E1 pr) 179=some (.int .u64):=by kernel_rfl
 unfold convertP;simp only [h1,h2,fI_eq]
theorem slA28 (id n c:Nat) (hc:1≤c) (hn:c<n):sliceP (E1 pr) 28 (.ref id 0 0 1 n false) (some (.int .i64 (c:Nat))) none none=some (.ref id 0 (c*1) 1 (n-c) false):=by rw [slice28];show (if c≤n∧n≤n∧(false=true→n=n) then _ else _)=_;rw [if_pos ⟨by omega,Nat.le_refl _,fun h=>by cases h⟩,if_neg (by omega)];simp
theorem slB28 (id n c:Nat) (hc:1≤c) (hn:c<n):sliceP (E1 pr) 28 (.ref id 0 0 1 n false) none (some (.int .i64 (c:Nat))) none=some (.ref id 0 0 1 c false):=by rw [slice28];show (if 0≤c∧c≤n∧(false=true→c=n) then _ else _)=_;rw [if_pos ⟨by omega,by omega,fun h=>by cases h⟩,if_neg (by omega)];simp
theorem c58 (hp:pr 153=none) (hp2:pr 98=none) (hp3:pr 58=none) (k n:Nat) (H:Hp) (hn:n≤400) (h1n:1≤n) (hlf:n<lf):
  ∃H',EV pr lf (k+3) 58 [.sl [[.int .i64 (-1)]] true,.int .i64 n] H= .ret (.ref H.n 0 0 1 n false) H'∧H'.n=H.n+1∧H'.get H.n=some (.cells 0 0 0 (List.replicate n (.int .i64 (-1))))∧ ∀i,i<H.n→H'.get i=H.get i:=by
 unfold EV;rw [evalFn_S (E1 pr) okd lf (k+2) 58 46 _ H f58 _ hp3 (fns_58 pr) rfl rfl];have h:=c98 pr lf hp hp2 k n H hn;unfold EV at h;have hr:=fun tm=>retC_pub (E1 pr) 98 H.n tm _ H _ _ rfl (pub_int2 .u64 .u64 0 n H);have h3:IntKind.u64.wrap (n:Int)=n:=wrapU _ (by omega) (by omega);have h4:IntKind.u64.wrap ((0:Nat)+1:Nat)=1:=rfl;have h5:IntKind.i64.wrap (n:Int)=n:=wrap64 _ (by omega) (by omega);have hlt:decide ((n:Int)<0)=false:=by simp
 have hgt:decide ((n:Int)>9223372036854775807)=false:=by simp;omega
 have hg0:decide ((0:Int)>0)=false:=rfl;have hms:=fun tm H=>ms28 pr n tm H (by omega);have hcA:=copyA pr H.n n (.int .i64 (-1)) (H.push (.cells 0 0 0 (List.replicate n (.int .i64 0)))) h1n (.int .i64 0) (get_push_new _ _) rfl;simp only [go_sem,h,hr,h3,h4,h5,hlt,hgt,hg0,cv3,cv179,hms,hcA,gc_self];generalize hL:loopC _ _ _ _ _ _ _ _ _ _=L;let Q (L:CRes):Prop:= ∃tm H',L= .exit 0 tm H' []∧tm.length=48∧getT tm 7= .ref H.n 0 0 1 n false∧H'.n=H.n+1∧H'.get H.n=some (.cells 0 0 0 (List.replicate n (.int .i64 (-1))))∧ ∀i,i<H.n→H'.get i=H.get i;have hQ:Q L:=by
  subst hL;refine loop_up _ Q (fun j tm H1=>tm.length=48∧getT tm 7= .ref H.n 0 0 1 n false∧H1.n=H.n+1∧(∀i,i<H.n→H1.get i=H.get i)∧
    ∃c:Nat,getT tm 8= .int .i64 c∧j+1≤c∧c≤n∧H1.get H.n=some (.cells 0 0 0 (List.replicate c (.int .i64 (-1))++List.replicate (n-c) (.int .i64 0))))
   n ?_ lf 0 _ _ (Nat.zero_le _) (by omega) ?_
  · rintro j tm H1 hj ⟨hl,h7,hN,ho,c,h8,hjc,hcn,hc⟩;generalize hB:evalCode _ _ _ _ _ _ tm H1 []=R;by_cases hlt:c<n
    · have hd:decide ((c:Int)<(n:Int))=true:=by simp;omega
      have hcB:=copyB pr H.n n c (.int .i64 (-1)) (.int .i64 0) H1 (by omega) hlt hc rfl;have hw:IntKind.i64.wrap ((c:Int)+(min c (n-c):Nat))=((c+min c (n-c):Nat):Int):=by rw [wrap64 _ (by omega) (by omega)];rfl
      have h1:=slA28 pr H.n n c (by omega) hlt;have h2:=slB28 pr H.n n c (by omega) hlt;rw [Nat.mul_one] at hcB h1;simp only [go_sem,hl,h7,h8,hd,und28s,h1,h2,hcB,hw] at hB;subst hB;refine .inl ⟨_,_,rfl,by omega,?_⟩;simp only [go_sem,hl,h7,hN,hc];refine ⟨fun i hi=>by rw [get_set_ne _ _ _ _ (by omega),ho i hi],_,rfl,by omega,by omega,rfl⟩
    · have hcn':c=n:=by omega
      subst hcn';have hd:decide ((c:Int)<(c:Int))=false:=by simp
      simp only [go_sem,hl,h7,h8,hd] at hB;subst hB;refine .inr ⟨rfl,_,_,rfl,?_⟩;simp only [go_sem,hl,h7,hN];refine ⟨?_,ho⟩;rw [hc];simp
  · simp only [go_sem];exact ⟨fun i hi=>get_push_old _ _ _ hi,1,rfl,Nat.le_refl _,h1n,rfl⟩
 obtain ⟨tm,H',rfl,hl,h7,hN,hc,ho⟩:=hQ;simp only [go_sem,hl,h7];exact ⟨H',rfl,hN,hc,ho⟩
end
open Go Go.Proofs.Tryz
set_option maxRecDepth 100000
theorem evalFn_prim (E:Env) (okD lf n f args H p) (h:E.prim f=some p):evalFn E okD lf (n+1) f args H=p args H:=by simp only [evalFn,evalBody,h]
theorem gc_keeps (n0:Nat) (v:Val) (H:Hp) (h:idsB n0 20 v=false):gc n0 v H=H:=by
 unfold gc;split
 · rfl
 · simp [h]
theorem retC_keep (E:Env) (f n0 tm v H) (hk:E.keep f=true) (h:idsB n0 20 v=false):retC E f n0 tm (.ret v H)= .ok v tm H:=by simp only [retC,hk,if_true,gc_keeps n0 v H h]
theorem blt_ge {a b:Nat} (h:b≤a):Nat.blt a b=false:=by
 cases hb:Nat.blt a b with
 |false=>rfl
 | true=>
   have:a+1≤b:=Nat.le_of_ble_eq_true hb;omega
theorem idsB_ref (n0 id gen off k len c) (h:n0≤id):idsB n0 20 (.ref id gen off k len c)=false:=blt_ge h
section
variable (pr:Nat→Option (List Val→Hp→FRes)) (lf:Nat)
theorem c101 (hp:noPr pr) (k:Nat) (x:Val) (H:Hp) (hx:okCell x=true) (hc:x.cells= [x]) (ho: ∀t,opdV t x=x):
  EV pr lf (k+1) 101 [x] H= .ret (.fn (.func 156) [] [.ptr H.n (genOf 28) 0 1]) (H.push (.cells (genOf 28) (genOf 28) 0 [x])):=by
 unfold EV;rw [evalFn_S (E1 pr) okd lf k 101 3 _ H f101 _ (hp 101 (by decide)) (fns_101 pr) rfl rfl];simp only [go_sem,hx,hc,ho,mkFn_E1];rfl
theorem pSeq_ok (p x:Val) (q:List Int) (H:Hp) (hl:loadC 1 false (rowAtP [] H p)=some x) (he:elemsOf 1 H x=some (q.map iC,q.length)) (hq:q≠ []) (hsm:q.length≤17592186043904):
  pSeq 156 3 [.nilsl,.fn (.func 156) [] [p]] H= .ret (.ref H.n (genOf 3) 0 1 q.length false) (H.push (.cells (genOf 3) (genOf 3) 0 (q.map iC))):=by
 obtain ⟨a,q,rfl⟩:=List.exists_cons_of_ne_nil hq;have h1:(intsOf ((a::q).map iC)).isSome=true:=by rw [show intsOf ((a::q).map iC)=some (a::q) from intsOf_map (a::q)];rfl
 have h2:Nat.ble q.length 17592186043903=true:=Nat.ble_eq_true_of_le (by simp at hsm;omega);simp only [pSeq,show Nat.beq 156 156=true from rfl,hl,he,List.length_cons,h1,h2,Bool.and_self,fN_eq,fV_eq,fL_eq,fH_eq]
theorem c154 (hp:noPr pr) (hq:pr 235=some (pSeq 156 3)) (k:Nat) (p x:Val) (q:List Int) (H:Hp) (hl:loadC 1 false (rowAtP [] H p)=some x) (he:elemsOf 1 H x=some (q.map iC,q.length)) (hn:q≠ []) (hsm:q.length≤17592186043904):
  EV pr lf (k+2) 154 [.fn (.func 156) [] [p]] H= .ret (.ref H.n (genOf 3) 0 1 q.length false) (H.push (.cells (genOf 3) (genOf 3) 0 (q.map iC))):=by
 unfold EV;rw [evalFn_S (E1 pr) okd lf (k+1) 154 4 _ H f154 _ (hp 154 (by decide)) (fns_154 pr) rfl rfl];have h1:evalFn (E1 pr) okd lf (k+1) 235 [.nilsl,.fn (.func 156) [] [p]] H=_:=(evalFn_prim (E1 pr) okd lf k 235 _ H _ hq).trans (pSeq_ok p x q H hl he hn hsm);have hr:=fun tm=>retC_keep (E1 pr) 235 H.n tm (.ref H.n (genOf 3) 0 1 q.length false) (H.push (.cells (genOf 3) (genOf 3) 0 (q.map iC))) (by kernel_rfl) (idsB_ref _ _ _ _ _ _ _ (Nat.le_refl _));simp only [go_sem,h1,hr];rfl
theorem c100 (hp:noPr pr) (hq:pr 235=some (pSeq 156 3)) (hs:pr 155=some pSort) (k:Nat) (p x:Val) (q:List Int) (H:Hp) (hl:loadC 1 false (rowAtP [] H p)=some x) (he:elemsOf 1 H x=some (q.map iC,q.length)) (hn:q≠ []) (hno:noLoc p=true) (hsm:q.length≤17592186043904):
  ∃H',(∀tm,retC (E1 pr) 100 H.n tm (evalFn (E1 pr) okd lf (k+3) 100 [.fn (.func 156) [] [p]] H)= .ok (.sl ((sortI q).map iR) false) tm H')∧Ext H H':=by
 have hlen:(sortI q).length=q.length:=(sortI_perm q).length_eq;have h1:=c154 pr lf hp hq k p x q H hl he hn hsm;unfold EV at h1;have hr:=fun tm=>retC_keep (E1 pr) 154 H.n tm (.ref H.n (genOf 3) 0 1 q.length false) (H.push (.cells (genOf 3) (genOf 3) 0 (q.map iC))) (by kernel_rfl) (idsB_ref _ _ _ _ _ _ _ (Nat.le_refl _));have h2:pSort [.ref H.n (genOf 3) 0 1 q.length false] (H.push (.cells (genOf 3) (genOf 3) 0 (q.map iC)))= .ret (.tup []) (H.push (.cells (genOf 3) (genOf 3) 0 ((sortI q).map iC))):=by
  have e1:sub (q.map iC) 0 q.length=some (q.map iC):=by simp [sub,List.take_of_length_le]
  have e2:upd (q.map iC) 0 ((sortI q).map (Val.int .i64))=some ((sortI q).map iC):=by rw [upd_all _ _ (by simp [hlen])];rfl
  have e3:intsOf (q.map iC)=some q:=intsOf_map q;simp only [pSort,get_push_new,e1,e3,e2,fL_eq,fH_eq,push_set];have hsm2:q.length<4611686018427387904:=by omega
  simp [hsm2]
 have h3:=(evalFn_prim (E1 pr) okd lf (k+1) 155 [.ref H.n (genOf 3) 0 1 q.length false] (H.push (.cells (genOf 3) (genOf 3) 0 (q.map iC))) _ hs).trans h2;have h4:evalFn (E1 pr) okd lf (k+3) 100 [.fn (.func 156) [] [p]] H= .ret (.ref H.n (genOf 3) 0 1 q.length false) (gc (H.n+1) (.tup []) (H.push (.cells (genOf 3) (genOf 3) 0 ((sortI q).map iC)))):=by rw [evalFn_S (E1 pr) okd lf (k+2) 100 8 _ H f100 _ (hp 100 (by decide)) (fns_100 pr) rfl rfl];simp only [go_sem,h1,hr,h3,hno];rfl
 have h5:gc (H.n+1) (.tup []) (H.push (.cells (genOf 3) (genOf 3) 0 ((sortI q).map iC)))=H.push (.cells (genOf 3) (genOf 3) 0 ((sortI q).map iC)):=gc_self _ (H.push _);rw [h5] at h4;have h6:=pub_ref 48 (H.push (.cells (genOf 3) (genOf 3) 0 ((sortI q).map iC))) H.n (genOf 3) (genOf 3) (genOf 3) 0 (sortI q) false (get_push_new _ _) (Nat.le_refl _);rw [hlen] at h6;generalize hF:Hp.set (H.push _) H.n (.cells (genOf 3) (genOf 3) (maxN 0 q.length) ((sortI q).map iC))=F at h6;have hE:Ext H F:=by rw [←hF];exact Ext.set (Ext.push _ _) (Nat.le_refl _) _
 exact ⟨gc H.n (.sl ((sortI q).map iR) false) F,fun tm=>by rw [h4];exact retC_pub (E1 pr) 100 H.n tm _ _ _ _ (by kernel_rfl) h6,Ext.gc hE _⟩
end
open Go Go.Proofs.Tryz
set_option maxRecDepth 100000
@[go_sem] theorem nilCheck_ptr (a b c d tm H):opNilCheck (.ptr a b c d) tm H= .ok (.ptr a b c d) tm H:=by show okV (some (Val.ptr a b c d)) tm H=_;rw [okV_some]
@[go_sem] theorem nilCheck_fptr (a b tm H):opNilCheck (.fptr a b) tm H= .ok (.fptr a b) tm H:=by show okV (some (Val.fptr a b)) tm H=_;rw [okV_some]
def onP (n:Nat) (p:Nat→Bool):List Val:=(List.range n).map fun k=>Val.bool (p k)
theorem onP_len (n p):(onP n p).length=n:=by simp [onP]
theorem onP_get {n k:Nat} (p) (h:k<n):(onP n p)[k]? =some (.bool (p k)):=by simp [onP,h]
theorem onP_set {n i:Nat} (p:Nat→Bool) (b:Bool):(onP n p).set i (.bool b)=onP n (fun k=>if k=i then b else p k):=by
 apply List.ext_getElem?;intro j;rw [List.getElem?_set];by_cases hj:j<n
 · rw [onP_get _ hj,onP_get _ hj];by_cases e:i=j
   · subst e;simp [onP_len,hj]
   · have e':j≠i:=fun h=>e h.symm;simp [e,e']
 · have h1: ∀q,(onP n q)[j]? =none:=fun q=>by simp [onP];omega
   rw [h1,h1];by_cases e:i=j
   · subst e;simp [onP_len,hj]
   · simp [e]
def nI (q:List Nat):List Int:=q.map fun k:Nat=>(k:Int)
def srtN (S:List Nat):List Nat:=(sortI (nI S)).map Int.toNat
theorem nI_len (q):(nI q).length=q.length:=by simp [nI]
theorem srtN_perm (S:List Nat):(srtN S).Perm S:=by
 have:=(sortI_perm (nI S)).map Int.toNat;have e:(nI S).map Int.toNat=S:=by
  unfold nI;rw [List.map_map];conv=>rhs;rw [←List.map_id S]
  apply List.map_congr_left;intro a _;simp
 rw [e] at this;exact this
theorem nI_srtN (S:List Nat):nI (srtN S)=sortI (nI S):=by
 unfold srtN;have h: ∀a∈sortI (nI S),0≤a:=by intro a ha;have:=(sortI_perm (nI S)).mem_iff.1 ha;obtain ⟨k,-,rfl⟩:=List.mem_map.1 this;omega
 generalize sortI (nI S)=l at h;unfold nI;rw [List.map_map];conv=>rhs;rw [←List.map_id l]
 apply List.map_congr_left;intro a ha;have:=h a ha;simp;omega
def setV (S:List Nat):Val:= .sl ((nI S).map iR) false
def StkV (n0 n:Nat) (H:Hp) (v:Val) (q:List Nat):Prop:=
 (v= .nilsl∧q= [])∨ ∃id j d cs,v= .ref id (genOf 3+j) 0 1 q.length false∧H.get id=some (.cells (genOf 3+j) d 0 cs)∧d≤genOf 3+j∧n0≤id∧cs.take q.length=(nI q).map iC∧q.length≤cs.length∧j<cs.length∧cs.length≤n
def RndV (n0:Nat) (H:Hp) (v:Val) (rs:List (List Nat)):Prop:=
 (v= .nilsl∧rs= [])∨ ∃id j d,v= .ref id (genOf 28+j) 0 1 rs.length false∧H.get id=some (.cells (genOf 28+j) d 0 (rs.map setV))∧d≤genOf 28+j∧n0≤id∧j<rs.length
def idOf:Val→Option Nat
 | .ref id _ _ _ _ _=>some id
 |_=>none
structure Ids where
  T:Nat
  g:Nat
  A:Nat
  L:Nat
  O:Nat
  n0:Nat
structure Ids.OK (I:Ids) (m:Nat):Prop where
  lo:m≤I.T∧m≤I.A∧m≤I.L∧m≤I.O
  hi:I.T<I.n0∧I.A<I.n0∧I.L<I.n0∧I.O<I.n0
  ta:I.T≠I.A
  tl:I.T≠I.L
  to:I.T≠I.O
  al:I.A≠I.L
  ao:I.A≠I.O
  lo':I.L≠I.O
def cellsT (I:Ids) (ss es sv rv:Val) (n nx:Nat):List Val:= [ss,es,.ref I.A 0 0 1 n false,.ref I.L 0 0 1 n false,sv,.ref I.O 0 0 1 n false,.int .i64 (nx:Nat),rv]
structure RM (Hb:Hp) (n:Nat) (ss es:Val) (I:Ids) (H:Hp) (t:TS) (on:Nat→Bool) (sv rv:Val):Prop where
  n0:I.n0≤H.n
  gT:H.get I.T=some (.cells I.g I.g 0 (cellsT I ss es sv rv n t.nx))
  gA:H.get I.A=some (.cells 0 0 0 (t.at_.map iC))
  gL:H.get I.L=some (.cells 0 0 0 (t.low.map iC))
  gO:H.get I.O=some (.cells 0 0 0 (onP n on))
  sk:StkV I.n0 n H sv t.st
  rn:RndV I.n0 H rv t.rs
  ds: ∀s r,idOf sv=some s→idOf rv=some r→s≠r
  old: ∀i,i<Hb.n→H.get i=Hb.get i
def RT (Hb:Hp) (n:Nat) (ss es:Val) (I:Ids) (H:Hp) (t:TS):Prop:= ∃sv rv,RM Hb n ss es I H t (fun k=>decide (k∈t.st)) sv rv
theorem StkV.ext {n0 n H H' v q} (h:StkV n0 n H v q) (he: ∀s,idOf v=some s→H'.get s=H.get s):StkV n0 n H' v q:=by
 rcases h with ⟨rfl,rfl⟩|⟨id,j,d,cs,rfl,hg,h1⟩
 · exact .inl ⟨rfl,rfl⟩
 · exact .inr ⟨id,j,d,cs,rfl,by rw [he id rfl,hg],h1⟩
theorem RndV.ext {n0 H H' v rs} (h:RndV n0 H v rs) (he: ∀s,idOf v=some s→H'.get s=H.get s):RndV n0 H' v rs:=by
 rcases h with ⟨rfl,rfl⟩|⟨id,j,d,rfl,hg,h1⟩
 · exact .inl ⟨rfl,rfl⟩
 · exact .inr ⟨id,j,d,rfl,by rw [he id rfl,hg],h1⟩
theorem StkV.id {n0 n H v q} (h:StkV n0 n H v q) (s:Nat) (hs:idOf v=some s):n0≤s∧s<H.n:=by
 rcases h with ⟨rfl,rfl⟩|⟨id,j,d,cs,rfl,hg,h1,h2,-⟩
 · cases hs
 · cases hs;exact ⟨h2,get_lt hg⟩
theorem RndV.id {n0 H v rs} (h:RndV n0 H v rs) (s:Nat) (hs:idOf v=some s):n0≤s∧s<H.n:=by
 rcases h with ⟨rfl,rfl⟩|⟨id,j,d,rfl,hg,h1,h2,-⟩
 · cases hs
 · cases hs;exact ⟨h2,get_lt hg⟩
theorem RM.keep {Hb n ss es I H H' t on sv rv} (hI:I.OK Hb.n) (h:RM Hb n ss es I H t on sv rv) (hn:I.n0≤H'.n) (hk: ∀i,i<I.n0→H'.get i=H.get i) (h1: ∀s,idOf sv=some s→H'.get s=H.get s) (h2: ∀s,idOf rv=some s→H'.get s=H.get s):RM Hb n ss es I H' t on sv rv:=
 {n0:=hn,gT:=by rw [hk _ hI.hi.1,h.gT],gA:=by rw [hk _ hI.hi.2.1,h.gA],gL:=by rw [hk _ hI.hi.2.2.1,h.gL],gO:=by rw [hk _ hI.hi.2.2.2,h.gO],sk:=h.sk.ext h1,rn:=h.rn.ext h2,ds:=h.ds,old:=fun i hi=>by rw [hk i (Nat.lt_of_lt_of_le hi (Nat.le_trans hI.lo.1 (Nat.le_of_lt hI.hi.1))),h.old i hi]}
theorem RM.ext {Hb n ss es I H H' t on sv rv} (hI:I.OK Hb.n) (h:RM Hb n ss es I H t on sv rv) (he:Ext H H'):RM Hb n ss es I H' t on sv rv:=
 h.keep hI (Nat.le_trans h.n0 he.1) (fun i hi=>he.2 i (Nat.lt_of_lt_of_le hi h.n0)) (fun s hs=>he.2 s (h.sk.id s hs).2) (fun s hs=>he.2 s (h.rn.id s hs).2)
theorem gc_get (n0:Nat) (v:Val) (H:Hp):(gc n0 v H=H)∨((gc n0 v H).n=n0∧(∀i,i<n0→(gc n0 v H).get i=H.get i)∧ ∀i,i<n0→ ∀o,H.get i=some o→objB n0 o=true):=by
 cases h1:Nat.ble H.n n0 with
 |true=>left;unfold Go.PV.gc;rw [if_pos h1]
 |false=>
 cases h2:idsB n0 20 v&&(H.l.drop (H.n-n0)).all (objB n0) with
 | false=>
   left;unfold Go.PV.gc;rw [if_neg (by rw [h1];simp)];show (if _ then _ else _)=_;rw [if_neg (by rw [h2];simp)]
 | true=>
   right;have e:gc n0 v H=⟨n0,H.l.drop (H.n-n0)⟩:=by unfold Go.PV.gc;rw [if_neg (by rw [h1];simp)];show (if _ then _ else _)=_;rw [if_pos h2]
   rw [Bool.and_eq_true,List.all_eq_true] at h2;have hn:n0≤H.n:=by
    have: ¬H.n≤n0:=fun h=>by rw [Nat.ble_eq_true_of_le h] at h1;cases h1
    omega
   have hg: ∀i,i<n0→(Hp.mk n0 (H.l.drop (H.n-n0))).get i=H.get i:=by intro id hi;simp only [Hp.get,if_pos hi,if_pos (Nat.lt_of_lt_of_le hi hn),List.getElem?_drop];congr 1;omega
   rw [e];refine ⟨rfl,hg,fun i hi o ho=> ?_⟩;rw [←hg i hi] at ho;simp only [Hp.get,if_pos hi] at ho;exact h2.2 o (List.mem_of_getElem? ho)
theorem RM.gc {Hb n ss es I H t on sv rv} (hI:I.OK Hb.n) (h:RM Hb n ss es I H t on sv rv) (n1:Nat) (v:Val) (h0:I.n0≤n1):RM Hb n ss es I (gc n1 v H) t on sv rv:=by
 rcases gc_get n1 v H with e|⟨e1,e2,e3⟩
 · rw [e];exact h
 · have hT:=e3 I.T (Nat.lt_of_lt_of_le hI.hi.1 h0) _ h.gT;simp only [objB,cellsT,List.all_cons,List.all_nil,Bool.and_true,Bool.and_eq_true] at hT;have hsv: ∀s,idOf sv=some s→s<n1:=by intro s hs;have:=hT.2.2.2.2.1;cases sv<;>cases hs;exact Nat.le_of_ble_eq_true this
   have hrv: ∀s,idOf rv=some s→s<n1:=by intro s hs;have:=hT.2.2.2.2.2.2.2;cases rv<;>cases hs;exact Nat.le_of_ble_eq_true this
   exact h.keep hI (by omega) (fun i hi=>e2 i (Nat.lt_of_lt_of_le hi h0)) (fun s hs=>e2 s (hsv s hs)) (fun s hs=>e2 s (hrv s hs))
theorem StkV.opdV {n0 n H v q} (h:StkV n0 n H v q) (t:Nat):opdV t v=v:=by rcases h with ⟨rfl,rfl⟩|⟨id,j,d,cs,rfl,-⟩<;>rfl
theorem RndV.opdV {n0 H v q} (h:RndV n0 H v q) (t:Nat):opdV t v=v:=by rcases h with ⟨rfl,rfl⟩|⟨id,j,d,rfl,-⟩<;>rfl
theorem StkV.cell {n0 n H v q} (h:StkV n0 n H v q):okCell v=true∧v.cells= [v]∧noLoc v=true:=by rcases h with ⟨rfl,rfl⟩|⟨id,j,d,cs,rfl,-⟩<;>exact ⟨rfl,rfl,rfl⟩
theorem RndV.cell {n0 H v q} (h:RndV n0 H v q):okCell v=true∧v.cells= [v]∧noLoc v=true:=by rcases h with ⟨rfl,rfl⟩|⟨id,j,d,rfl,-⟩<;>exact ⟨rfl,rfl,rfl⟩
theorem StkV.KV {n0 n H v q} (h:StkV n0 n H v q):KV H v (nI q):=by
 rcases h with ⟨rfl,rfl⟩|⟨id,j,d,cs,rfl,hg,h1,h2,h3,h4,-⟩
 · exact .inl ⟨rfl,rfl⟩
 · exact .inr ⟨id,_,_,d,0,cs,by rw [nI_len],hg,h1,by rw [nI_len];exact h4,by rw [nI_len];exact h3⟩
theorem tyOK_gn (el j:Nat) (h:j<1048000):tyOK (genOf el+j) el=true:=by
 have h1:(genOf el+j+1)/1048576=el+1:=by unfold genOf;omega
 have h2:(genOf el+j)/1048576=el+1:=by unfold genOf;omega
 simp [tyOK,tyN,h1,h2]
theorem StkV.push {n0 n H v q} (h:StkV n0 n H v q) (a:Nat) (hn0:n0≤H.n) (hl:q.length<n) (hn:n≤400):
  ∃v' H',app1 3 8 v (.int .i64 a) H=some (v',H')∧StkV n0 n H' v' (q++ [a])∧H.n≤H'.n∧(∀i,i<H.n→idOf v≠some i→H'.get i=H.get i)∧(∀s,idOf v'=some s→s=H.n∨idOf v=some s)∧ ∀t,Go.PV.opdV t v'=v':=by
 rcases h with ⟨rfl,rfl⟩|⟨id,j,d,cs,rfl,hg,hd,hid,htk,hle,hj,hcs⟩
 · refine ⟨_,_,rfl,.inr ⟨H.n,0,genOf 3,[iC a],rfl,get_push_new _ _,Nat.le_refl _,hn0,rfl,by simp,by simp,by simp;omega⟩,Nat.le_succ _,fun i hi _=>get_push_old _ _ _ hi,fun s hs=> ?_,fun _=>rfl⟩;cases hs;exact .inl rfl
 · have hr:(q.length+1)*(8+1)≤roomN:=by unfold roomN;omega
   by_cases he:q.length=cs.length
   · refine ⟨.ref id (genOf 3+j+1) 0 1 (q.length+1) false,H.set id (.cells (genOf 3+j+1) d 0 (cs++ [iC a])),?_,.inr ⟨id,j+1,d,cs++ [iC a],by simp [Nat.add_assoc],get_set_same _ _ _ (by rw [hg];rfl),by omega,hid,?_,by simp;omega,by simp;omega,by simp;omega⟩,by rw [n_set];exact Nat.le_refl _,fun i _ hne=>get_set_ne _ _ _ _ (fun e=>hne (by rw [e];rfl)),fun s hs=> .inr hs,fun _=>rfl⟩
     · simp only [app1,hg];rw [if_pos ⟨trivial,hr,hd⟩];simp only [Bool.false_eq_true,if_false];rw [if_pos ⟨trivial,by omega,Nat.zero_le _,tyOK_gn 3 j (by omega)⟩];rfl
     · rw [he,List.take_length] at htk;rw [htk];simp [nI,List.take_of_length_le]
   · refine ⟨.ref id (genOf 3+j) 0 1 (q.length+1) false,H.set id (.cells (genOf 3+j) (genOf 3+j) 0 (cs.set q.length (iC a))),?_,.inr ⟨id,j,_,cs.set q.length (iC a),by simp,get_set_same _ _ _ (by rw [hg];rfl),Nat.le_refl _,hid,?_,by simp;omega,by simp;omega,by simp;omega⟩,by rw [n_set];exact Nat.le_refl _,fun i _ hne=>get_set_ne _ _ _ _ (fun e=>hne (by rw [e];rfl)),fun s hs=> .inr hs,fun _=>rfl⟩
     · simp only [app1,hg];rw [if_pos ⟨trivial,hr,hd⟩];simp only [Bool.false_eq_true,if_false];rw [if_neg (by omega),if_pos ⟨trivial,by omega,by omega⟩];have:upd cs (0+q.length*1) [Val.int .i64 a]=some (cs.set q.length (iC a)):=by rw [upd_one,if_pos (by omega)];simp [iC]
       rw [this]
     · have e1:(q++ [a]).length=q.length+1:=by simp
       rw [e1,List.take_add_one,List.take_set_of_le (Nat.le_refl _),htk,List.getElem?_set_self (by omega)];simp [nI]
theorem app36 (pr:Nat→Option (List Val→Hp→FRes)) (v a:Val) (H) (ha:okCell a=true):appendP (E1 pr) 36 36 v (.sl [[a]] true) H=app1 28 24 v a H:=
 append_one (E1 pr) 36 28 t28 v _ H (by kernel_rfl) (by kernel_rfl) rfl (by decide) ha
theorem bs36 (pr:Nat→Option (List Val→Hp→FRes)) (S:List Nat) (H):buildSliceP (E1 pr) 36 1 [(0,setV S)] H=some (.sl [[setV S]] true,H):=by unfold setV;kernel_rfl
theorem RndV.push {n0 H v rs} (h:RndV n0 H v rs) (S:List Nat) (hn0:n0≤H.n) (hl:rs.length≤400):
  ∃v' H',app1 28 24 v (setV S) H=some (v',H')∧RndV n0 H' v' (rs++ [S])∧H.n≤H'.n∧(∀i,i<H.n→idOf v≠some i→H'.get i=H.get i)∧(∀s,idOf v'=some s→s=H.n∨idOf v=some s)∧ ∀t,Go.PV.opdV t v'=v':=by
 rcases h with ⟨rfl,rfl⟩|⟨id,j,d,rfl,hg,hd,hid,hj⟩
 · refine ⟨_,_,rfl,.inr ⟨H.n,0,genOf 28,rfl,get_push_new _ _,Nat.le_refl _,hn0,by simp⟩,Nat.le_succ _,fun i hi _=>get_push_old _ _ _ hi,fun s hs=> ?_,fun _=>rfl⟩;cases hs;exact .inl rfl
 · have hr:(rs.length+1)*(24+1)≤roomN:=by unfold roomN;omega
   refine ⟨.ref id (genOf 28+j+1) 0 1 (rs.length+1) false,H.set id (.cells (genOf 28+j+1) d 0 (rs.map setV++ [setV S])),?_,.inr ⟨id,j+1,d,by simp [Nat.add_assoc],by rw [get_set_same _ _ _ (by rw [hg];rfl)];simp [Nat.add_assoc],by omega,hid,by simp;omega⟩,by rw [n_set];exact Nat.le_refl _,fun i _ hne=>get_set_ne _ _ _ _ (fun e=>hne (by rw [e];rfl)),fun s hs=> .inr hs,fun _=>rfl⟩;simp only [app1,hg];rw [if_pos ⟨trivial,hr,hd⟩];simp only [Bool.false_eq_true,if_false];rw [if_pos ⟨trivial,by simp,Nat.zero_le _,tyOK_gn 28 j (by omega)⟩]
theorem RM.stA {Hb n ss es I H t on sv rv} (hI:I.OK Hb.n) (h:RM Hb n ss es I H t on sv rv) (l:List Int):RM Hb n ss es I (H.set I.A (.cells 0 0 0 (l.map iC))) {t with at_:=l} on sv rv:=by obtain ⟨a,b,c,d⟩:=hI.lo;have:=hI.hi;exact {n0:=by rw [n_set];exact h.n0,gT:=by rw [get_set_ne _ _ _ _ hI.ta];exact h.gT,gA:=get_set_same _ _ _ (by rw [h.gA];rfl),gL:=by rw [get_set_ne _ _ _ _ hI.al.symm];exact h.gL,gO:=by rw [get_set_ne _ _ _ _ hI.ao.symm];exact h.gO,sk:=h.sk.ext fun s hs=>get_set_ne _ _ _ _ (by have:=(h.sk.id s hs).1;omega),rn:=h.rn.ext fun s hs=>get_set_ne _ _ _ _ (by have:=(h.rn.id s hs).1;omega),ds:=h.ds,old:=fun i hi=>by rw [get_set_ne _ _ _ _ (by omega)];exact h.old i hi}
theorem RM.stL {Hb n ss es I H t on sv rv} (hI:I.OK Hb.n) (h:RM Hb n ss es I H t on sv rv) (l:List Int):RM Hb n ss es I (H.set I.L (.cells 0 0 0 (l.map iC))) {t with low:=l} on sv rv:=by obtain ⟨a,b,c,d⟩:=hI.lo;have:=hI.hi;exact {n0:=by rw [n_set];exact h.n0,gT:=by rw [get_set_ne _ _ _ _ hI.tl];exact h.gT,gL:=get_set_same _ _ _ (by rw [h.gL];rfl),gA:=by rw [get_set_ne _ _ _ _ hI.al];exact h.gA,gO:=by rw [get_set_ne _ _ _ _ hI.lo'.symm];exact h.gO,sk:=h.sk.ext fun s hs=>get_set_ne _ _ _ _ (by have:=(h.sk.id s hs).1;omega),rn:=h.rn.ext fun s hs=>get_set_ne _ _ _ _ (by have:=(h.rn.id s hs).1;omega),ds:=h.ds,old:=fun i hi=>by rw [get_set_ne _ _ _ _ (by omega)];exact h.old i hi}
theorem RM.stO {Hb n ss es I H t on sv rv} (hI:I.OK Hb.n) (h:RM Hb n ss es I H t on sv rv) (on':Nat→Bool):RM Hb n ss es I (H.set I.O (.cells 0 0 0 (onP n on'))) t on' sv rv:=by obtain ⟨a,b,c,d⟩:=hI.lo;have:=hI.hi;exact {n0:=by rw [n_set];exact h.n0,gT:=by rw [get_set_ne _ _ _ _ hI.to];exact h.gT,gO:=get_set_same _ _ _ (by rw [h.gO];rfl),gA:=by rw [get_set_ne _ _ _ _ hI.ao];exact h.gA,gL:=by rw [get_set_ne _ _ _ _ hI.lo'];exact h.gL,sk:=h.sk.ext fun s hs=>get_set_ne _ _ _ _ (by have:=(h.sk.id s hs).1;omega),rn:=h.rn.ext fun s hs=>get_set_ne _ _ _ _ (by have:=(h.rn.id s hs).1;omega),ds:=h.ds,old:=fun i hi=>by rw [get_set_ne _ _ _ _ (by omega)];exact h.old i hi}
theorem RM.put {Hb n ss es I H t on sv rv} (hI:I.OK Hb.n) (h:RM Hb n ss es I H t on sv rv) {H2:Hp} (hn:H.n≤H2.n) (fr: ∀i,i<I.n0→H2.get i=H.get i) {sv2 rv2 st2 rs2} (nx2:Nat)
  (sk:StkV I.n0 n H2 sv2 st2) (rn:RndV I.n0 H2 rv2 rs2) (ds2: ∀s r,idOf sv2=some s→idOf rv2=some r→s≠r):
  RM Hb n ss es I (H2.set I.T (.cells I.g I.g 0 (cellsT I ss es sv2 rv2 n nx2))) ⟨t.at_,t.low,st2,nx2,rs2⟩ on sv2 rv2:=by
 obtain ⟨a,b,c,d⟩:=hI.lo;obtain ⟨a',b',c',d'⟩:=hI.hi;have hn0:=h.n0;exact {n0:=by rw [n_set];omega,gT:=get_set_same _ _ _ (by rw [fr _ a',h.gT];rfl),gO:=by rw [get_set_ne _ _ _ _ hI.to.symm,fr _ d'];exact h.gO,gA:=by rw [get_set_ne _ _ _ _ hI.ta.symm,fr _ b'];exact h.gA,gL:=by rw [get_set_ne _ _ _ _ hI.tl.symm,fr _ c'];exact h.gL,sk:=sk.ext fun s hs=>get_set_ne _ _ _ _ (by have:=(sk.id s hs).1;omega),rn:=rn.ext fun s hs=>get_set_ne _ _ _ _ (by have:=(rn.id s hs).1;omega),ds:=ds2,old:=fun i hi=>by rw [get_set_ne _ _ _ _ (by omega),fr i (by omega)];exact h.old i hi}
theorem RM.cong {Hb n ss es I H t on on' sv rv} (h:RM Hb n ss es I H t on sv rv) (e: ∀k,k<n→on k=on' k):RM Hb n ss es I H t on' sv rv:=by
 have:onP n on=onP n on':=by unfold onP;exact List.map_congr_left fun k hk=>by rw [e k (List.mem_range.1 hk)]
 exact {h with gO:=by rw [←this];exact h.gO}
theorem builtin_min (E ts k a b tm H):opBuiltin E .min ts [.int k a,.int k b] tm H= .ok (.int k (min a b)) tm H:=by
 have:minL k a [.int k b]=some (.int k (min a b)):=by
  simp only [minL,if_true];split
  · next h=>rw [Int.min_eq_right (by omega)]
  · next h=>rw [Int.min_eq_left (by omega)]
 cases ts with
 |nil=>show okV (minL k a [.int k b]) tm H=_;rw [this,okV_some]
 | cons t ts=>cases ts with
   |nil=>show okV (minL k a [.int k b]) tm H=_;rw [this,okV_some]
   |cons u ts=>show okV (minL k a [.int k b]) tm H=_;rw [this,okV_some]
attribute [go_sem] builtin_min
theorem set_setH (H:Hp) (i:Nat) (a b:Obj):(H.set i a).set i b=H.set i b:=by
 unfold Hp.set;by_cases h:i<H.n
 · simp only [h,if_true];have: ∀(l:List Obj) (j:Nat),setL (setL l j a) j b=setL l j b:=by
    intro l
    induction l with
    |nil=>intro j;rfl
    | cons x l ih=>intro j;cases j with
      |zero=>rfl
      |succ j=>simp [setL,ih]
   rw [this]
 · simp only [h,if_false]
theorem idx_of {l:List Nat} {i j:Nat} (h1:(nI l)[j]? =some (i:Int)) (h2:(i:Int)∉(nI l).take j):j=l.idxOf i:=by
 induction l generalizing j with
 |nil=>cases h1
 | cons x l ih=>cases j with
   | zero=>
     simp [nI] at h1;have:x=i:=by omega
     subst this;simp
   | succ j=>
     simp only [nI,List.map_cons,List.getElem?_cons_succ] at h1;simp only [nI,List.map_cons,List.take_succ_cons,List.mem_cons,not_or] at h2;have hx:(x==i)=false:=by simp;intro e;exact h2.1 (by rw [e])
     have:=ih h1 h2.2;simp [List.idxOf_cons,hx,this]
theorem StkV.part {n0 n H v q} (h:StkV n0 n H v q) (pr) (p:Nat) (hp:p<q.length): ∃id g g',v= .ref id g 0 1 q.length false∧
  sliceP (E1 pr) 28 v (some (.int .i64 (p:Nat))) none none=some (.ref id g (p*1) 1 (q.length-p) false)∧
  (∀H',H'.get id=H.get id→elemsOf 1 H' (.ref id g (p*1) 1 (q.length-p) false)=some ((nI (q.drop p)).map iC,(nI (q.drop p)).length))∧
  id<H.n∧sliceP (E1 pr) 28 v none (some (.int .i64 (p:Nat))) none=some (.ref id g 0 1 p false)∧StkV n0 n H (.ref id g 0 1 p false) (q.take p)∧g'=g:=by
 rcases h with ⟨rfl,rfl⟩|⟨id,j,d,cs,rfl,hg,hd,hid,htk,hle,hj,hcs⟩
 · simp at hp
 · refine ⟨id,genOf 3+j,_,rfl,?_,?_,get_lt hg,?_,.inr ⟨id,j,d,cs,by simp;omega,hg,hd,hid,?_,by simp;omega,hj,hcs⟩,rfl⟩
   · rw [slice28];show (if p≤q.length∧q.length≤q.length∧(false=true→q.length=q.length) then _ else _)=_;rw [if_pos ⟨by omega,Nat.le_refl _,fun h=>by cases h⟩,if_neg (by omega)];simp
   · intro H' hH;have e1:sub cs (p*1) ((q.length-p)*1)=some ((nI (q.drop p)).map iC):=by unfold sub;rw [if_pos (by omega)];simp only [Nat.mul_one];rw [←List.drop_take,htk];simp [nI]
     simp only [elemsOf,hH,hg];rw [if_pos ⟨hd,trivial⟩,e1];simp [nI]
   · rw [slice28];show (if 0≤p∧p≤q.length∧(false=true→p=q.length) then _ else _)=_;rw [if_pos ⟨by omega,by omega,fun h=>by cases h⟩,if_neg (by omega)];simp
   · have e1:(q.take p).length=p:=by simp;omega
     rw [e1,show p=min p q.length by omega,←List.take_take,htk];simp [nI]
end Go.PV
